/- The pure law of FnExactJoinPartitions: on lists of whole numbers, the printed functions answer alike; no condition beside the printed bounds. -/
import Derived.Test.YtajabnbonkophaaQ48
import Derived.Test.YtajabnbonkophaaWSized
namespace Go.Proofs.Ytajabnbonkophaa
open Go.ChangeShapes Go.WideShapes
/-- The printed row names this word without its first part. -/
theorem PrintWords.sized_ints {H : Type} {enc : TypeId × Value → H} {P : Program} {W : World} {base : Nat} {spare : Nat → Bool} {held : Bool} {t e : TypeId} {k : IntKind} {a : Option Addr} {len cap : Nat} {d : DataW H} {ps : List MemPlace} {ts : List TypeId} {ds : List (DataW H)} {j : Nat}
    (hsz : (DataW.weightsEach P ts ds).all (· ≤ reachBytes) = true) (ht : ts[j]? = some t) (hd : ds[j]? = some d) (hu : P.underlying t = some (.slice e)) (he : P.underlying e = some (.int k)) (hc : P.cellsOf e = 1) {B : Nat} (hB : P.bytesOf e = B)
    (h : DataW.Trod enc P W base spare held t (.slice a len cap) d ps) : len * B ≤ 140737488351232 :=
  Go.Proofs.YtajabnbonkophaaW.PrintWords.sized_ints hsz ht hd hu he hc hB h
end Go.Proofs.Ytajabnbonkophaa
namespace Go.Proofs.Ytajabnbonkophaa.Pure
open Go.RowKit Go.Proofs.Ytajabnbonkophaa.Q Go.Proofs.YtajabnbonkophaaW.PrintWords Go.Proofs.YtajabnbonkophaaW.PrintLast
set_option linter.unusedVariables false
set_option linter.unusedSimpArgs false

/-! base -/
theorem Ev.pos {α : Type} {c : Prop} [Decidable c] {f g : Nat → Option α} {r : α} (h : c) (hf : Ev f r) : Ev (fun k => if c then f k else g k) r := by
  simpa only [if_pos h] using hf
theorem Ev.neg {α : Type} {c : Prop} [Decidable c] {f g : Nat → Option α} {r : α} (h : ¬ c) (hg : Ev g r) : Ev (fun k => if c then f k else g k) r := by
  simpa only [if_neg h] using hg
theorem Ev.ite {α : Type} {c : Prop} [Decidable c] {f g : Nat → Option α} {r : α} (h : c → Ev f r) (h' : ¬ c → Ev g r) : Ev (fun k => if c then f k else g k) r := by
  by_cases hc : c
  · exact Ev.pos hc (h hc)
  · exact Ev.neg hc (h' hc)
theorem Ev.bind1 {α β : Type} {x : α} {f : Nat → α → Option β} {r : β} (k : Ev (fun n => f n x) r) : Ev (fun n => (some x).bind (f n)) r := k
theorem _root_.Go.Proofs.YtajabnbonkophaaW.PrintWords.Ev.to {α : Type} {g : Nat → Option α} {r s : α} (h : Ev g r) (e : r = s) : Ev g s := e ▸ h
theorem w64 {x : Int} (h1 : -9223372036854775808 ≤ x) (h2 : x ≤ 9223372036854775807) : wrap64 x = x := by unfold wrap64; omega
theorem w64s {i n : Nat} (h : i < n) (hn : n ≤ 9223372036854775807) : wrap64 ((i : Int) + 1) = ((i + 1 : Nat) : Int) := by unfold wrap64; omega
/-- A list's member at a place. -/
def gd (l : List Int) (i : Nat) : Int := l.getD i 0
theorem rdn (xs : List Int) (i : Nat) : rd xs (i : Int) = gd xs i := by simp [rd, gd]
theorem gd_lt {xs : List Int} {i : Nat} (h : i < xs.length) : gd xs i = xs[i] := by simp [gd, List.getD, h]
theorem gd_eq {xs : List Int} {i : Nat} (h : i < xs.length) : xs[i]? = some (gd xs i) := by simp [gd, List.getD, h]
theorem set_self {x : List Int} {i : Nat} {v : Int} (h : gd x i = v) (hi : i < x.length) : x.set i v = x := by
  subst h
  rw [gd_lt hi, List.set_getElem_self]
theorem set_at {x : List Int} {i : Nat} (v : Int) (hi : i < x.length) : gd (x.set i v) i = v := by simp [gd, List.getD, hi]
theorem set_ne {x : List Int} {i j : Nat} (v : Int) (h : i ≠ j) : gd (x.set i v) j = gd x j := by simp only [gd, List.getD]; rw [List.getElem?_set_ne h]
theorem ext_gd {a b : List Int} (h : a.length = b.length) (e : ∀ i, i < a.length → gd a i = gd b i) : a = b := by
  apply List.ext_getElem h
  intro i h1 h2
  have := e i h1
  rwa [gd_lt h1, gd_lt h2] at this
theorem take_snoc (l : List Int) {i : Nat} (h : i < l.length) : l.take i ++ [gd l i] = l.take (i + 1) := by
  rw [gd_lt h, List.take_append_getElem]

/-! ints -/
/-- The numbers from a on, n of them. -/
def asc (n : Nat) (a : Int) : List Int := (List.range n).map fun (j : Nat) => a + (j : Int)
theorem asc_length (n : Nat) (a : Int) : (asc n a).length = n := by simp [asc]
theorem asc_at {n i : Nat} (a : Int) (h : i < n) : gd (asc n a) i = a + i := by simp [asc, gd, List.getD, h]

theorem toIntS_loop (l : List Int) (hl : l.length ≤ 35184372088832) : ∀ (d i : Nat) (x : List Int), i + d = l.length → x.length = l.length → (∀ j, j < i → gd x j = gd l j) → Ev (fun k => laws_toIntS.l0 k l x (i : Int)) l := by
  intro d
  induction d with
  | zero =>
    intro i x hi hx h
    refine Ev.step (fun _ => laws_toIntS.l0.eq_2 ..) ?_
    refine Ev.neg (by omega) ?_
    have : x = l := by
      apply List.ext_getElem hx
      intro j h1 h2
      have := h j (by omega)
      simpa [gd, List.getD, h1, h2] using this
    subst this
    exact Ev.now _
  | succ d ih =>
    intro i x hi hx h
    refine Ev.step (fun _ => laws_toIntS.l0.eq_2 ..) ?_
    refine Ev.pos (by omega) ?_
    refine Ev.pos (by omega) ?_
    refine Ev.pos (by omega) ?_
    rw [w64s (n := l.length) (by omega) (by omega), rdn, Int.toNat_natCast]
    refine ih (i + 1) _ (by omega) (by simpa using hx) ?_
    intro j hj
    by_cases e : j = i
    · subst e
      simp [gd, List.getD, show j < x.length by omega]
    · have := h j (by omega)
      simp only [gd, List.getD] at this ⊢
      rw [List.getElem?_set_ne (by omega)]
      exact this
theorem toIntS_ev (l : List Int) (hl : l.length ≤ 35184372088832) : Ev (fun k => laws_toIntS.f k l) l := by
  unfold laws_toIntS.f
  refine Ev.pos (by omega) ?_
  refine Ev.pos (by omega) ?_
  exact toIntS_loop l hl l.length 0 _ (by omega) (by simp) (fun j hj => by omega)

theorem eqIntS_loop (a b : List Int) (hb : b.length = a.length) (hl : a.length ≤ 35184372088832) : ∀ (d i : Nat), i + d = a.length → Ev (fun k => laws_eqIntS.l0 k a b (i : Int)) (decide (a.drop i = b.drop i)) := by
  intro d
  induction d with
  | zero =>
    intro i hi
    refine Ev.step (fun _ => laws_eqIntS.l0.eq_2 ..) ?_
    refine Ev.neg (by omega) ?_
    refine (Ev.now _).to ?_
    rw [List.drop_of_length_le (by omega), List.drop_of_length_le (by omega)]
    simp
  | succ d ih =>
    intro i hi
    refine Ev.step (fun _ => laws_eqIntS.l0.eq_2 ..) ?_
    refine Ev.pos (by omega) ?_
    refine Ev.pos (by omega) ?_
    refine Ev.pos (by omega) ?_
    rw [w64s (n := a.length) (by omega) (by omega), rdn, rdn]
    have e1 : a.drop i = gd a i :: a.drop (i + 1) := by rw [gd_lt (by omega)]; exact List.drop_eq_getElem_cons (by omega)
    have e2 : b.drop i = gd b i :: b.drop (i + 1) := by rw [gd_lt (by omega)]; exact List.drop_eq_getElem_cons (by omega)
    refine Ev.ite (fun h => ?_) (fun h => ?_)
    · refine (ih (i + 1) (by omega)).to ?_
      rw [e1, e2, h]
      simp
    · refine (Ev.now _).to ?_
      rw [e1, e2]
      simp [h]
theorem eqIntS_ev (a b : List Int) (hl : a.length ≤ 35184372088832) : Ev (fun k => laws_eqIntS.f k a b) (decide (a = b)) := by
  unfold laws_eqIntS.f
  refine Ev.ite (fun h => ?_) (fun h => ?_)
  · exact eqIntS_loop a b (by omega) hl a.length 0 (by omega)
  · refine (Ev.now _).to ?_
    have : a ≠ b := fun e => h (by rw [e])
    simp [this]
theorem eqIntS_same (a : List Int) (hl : a.length ≤ 35184372088832) : Ev (fun k => laws_eqIntS.f k a a) true := (eqIntS_ev a a hl).to (by simp)

/-! marks -/
theorem markIntS_loop (l : List Int) (a : Int) (ha : 0 ≤ a) (hb : a + l.length ≤ 4611686018427387904) : ∀ (d i : Nat) (x : List Int), i + d = l.length → x.length = l.length → (∀ j, j < i → gd x j = a + j) → Ev (fun k => laws_markIntS.l0 k x (a + i) (i : Int)) (a + l.length, asc l.length a) := by
  intro d
  induction d with
  | zero =>
    intro i x hi hx h
    refine Ev.step (fun _ => laws_markIntS.l0.eq_2 ..) ?_
    refine Ev.neg (by omega) ?_
    have : x = asc l.length a := by
      apply List.ext_getElem (by simp [asc_length, hx])
      intro j h1 h2
      have e := h j (by omega)
      rw [← gd_lt h1, ← gd_lt h2, e, asc_at a (by omega)]
    subst this
    have : i = l.length := by omega
    subst this
    exact Ev.now _
  | succ d ih =>
    intro i x hi hx h
    refine Ev.step (fun _ => laws_markIntS.l0.eq_2 ..) ?_
    refine Ev.pos (by omega) ?_
    refine Ev.pos (by omega) ?_
    rw [w64s (n := l.length) (by omega) (by omega), w64 (by omega) (by omega), Int.toNat_natCast, show a + (i : Int) + 1 = a + ((i + 1 : Nat) : Int) by omega]
    refine ih (i + 1) _ (by omega) (by simpa using hx) ?_
    intro j hj
    by_cases e : j = i
    · subst e
      simp [gd, List.getD, show j < x.length by omega]
    · have := h j (by omega)
      simp only [gd, List.getD] at this ⊢
      rw [List.getElem?_set_ne (by omega)]
      exact this
theorem markIntS_ev (l : List Int) (a : Int) (ha : 0 ≤ a) (hb : a + l.length ≤ 4611686018427387904) : Ev (fun k => laws_markIntS.f k l a) (a + l.length, asc l.length a) := by
  unfold laws_markIntS.f
  have := markIntS_loop l a ha hb l.length 0 l (by omega) rfl (fun j hj => by omega)
  simpa using this
theorem heldIntS_loop (n : Nat) (a : Int) (ha : 0 ≤ a) (hb : a + n ≤ 4611686018427387904) : ∀ (d i : Nat), i + d = n → Ev (fun k => laws_heldIntS.l0 k (asc n a) (a + i) (i : Int)) (a + n) := by
  intro d
  induction d with
  | zero =>
    intro i hi
    refine Ev.step (fun _ => laws_heldIntS.l0.eq_2 ..) ?_
    refine Ev.neg (by rw [asc_length]; omega) ?_
    have : i = n := by omega
    subst this
    exact Ev.now _
  | succ d ih =>
    intro i hi
    refine Ev.step (fun _ => laws_heldIntS.l0.eq_2 ..) ?_
    refine Ev.pos (by rw [asc_length]; omega) ?_
    refine Ev.pos (by omega) ?_
    refine Ev.pos (by rw [rdn, asc_at a (by omega)]) ?_
    rw [w64s (n := n) (by omega) (by omega), w64 (by omega) (by omega), show a + (i : Int) + 1 = a + ((i + 1 : Nat) : Int) by omega]
    exact ih (i + 1) (by omega)
theorem heldIntS_ev (n : Nat) (a : Int) (ha : 0 ≤ a) (hb : a + n ≤ 4611686018427387904) : Ev (fun k => laws_heldIntS.f k (asc n a) a) (a + n) := by
  unfold laws_heldIntS.f
  have := heldIntS_loop n a ha hb n 0 (by omega)
  simpa using this

/-! part -/
/-- What a partition's list owes at a place. -/
def partAt (p : List Int) (i : Nat) : Bool := decide (0 ≤ gd p i) && (decide (gd p i ≤ (i : Int)) && decide (gd p (gd p i).toNat = gd p i))
def partB (n : Int) (p : List Int) : Bool := decide ((p.length : Int) = n) && (List.range' 0 p.length).all (partAt p)
def sizeB (n : Int) : Bool := decide (1 ≤ n ∧ n ≤ 8)
theorem impl_isSize_eq (n : Int) : impl_isSize.f n = some (sizeB n) := by
  unfold impl_isSize.f sizeB
  split
  · congr 1; simp; omega
  · congr 1; simp; omega
theorem spec_l1In_eq (a b c : Int) : spec_l1In.f a b c = some (decide (b ≤ a ∧ a ≤ c)) := by
  unfold spec_l1In.f
  split
  · congr 1; simp; omega
  · congr 1; simp; omega
theorem spec_l6Size_eq (n : Int) : spec_l6Size.f n = some (sizeB n) := by
  unfold spec_l6Size.f
  rw [spec_l1In_eq]
  rfl
theorem impl_isPartition_loop (p : List Int) (hl : p.length ≤ 35184372088832) : ∀ (d i : Nat), i + d = p.length → Ev (fun k => impl_isPartition.l0 k p p (p.length : Int) (i : Int)) ((List.range' i d).all (partAt p)) := by
  intro d
  induction d with
  | zero =>
    intro i hi
    refine Ev.step (fun _ => impl_isPartition.l0.eq_2 ..) ?_
    refine Ev.neg (by omega) ?_
    exact Ev.now _
  | succ d ih =>
    intro i hi
    refine Ev.step (fun _ => impl_isPartition.l0.eq_2 ..) ?_
    refine Ev.pos (by omega) ?_
    refine Ev.pos (by omega) ?_
    refine Ev.pos (by omega) ?_
    rw [w64s (n := p.length) (by omega) (by omega), rdn, List.range'_succ, List.all_cons]
    refine Ev.ite (fun h => (Ev.now _).to (by simp [partAt]; omega)) (fun h1 => ?_)
    refine Ev.ite (fun h => (Ev.now _).to (by simp [partAt]; omega)) (fun h2 => ?_)
    refine Ev.pos (by omega) ?_
    refine Ev.pos (by omega) ?_
    have e : rd p (gd p i) = gd p (gd p i).toNat := rfl
    rw [e]
    refine Ev.ite (fun h => ?_) (fun h => (Ev.now _).to (by simp [partAt]; omega))
    refine (ih (i + 1) (by omega)).to ?_
    have : partAt p i = true := by simp [partAt]; omega
    rw [this]
    simp
theorem impl_isPartition_ev (n : Int) (p : List Int) (hl : p.length ≤ 35184372088832) : Ev (fun k => impl_isPartition.f k n p) (partB n p) := by
  unfold impl_isPartition.f partB
  refine Ev.ite (fun h => ?_) (fun h => ?_)
  · refine (impl_isPartition_loop p hl p.length 0 (by omega)).to ?_
    simp [h]
  · exact (Ev.now _).to (by simp [h])
theorem spec_l6Partition_loop (p : List Int) (hl : p.length ≤ 35184372088832) : ∀ (d i : Nat), i + d = p.length → Ev (fun k => spec_l6Partition.l0 k (p.length : Int) p (i : Int)) ((List.range' i d).all (partAt p)) := by
  intro d
  induction d with
  | zero =>
    intro i hi
    refine Ev.step (fun _ => spec_l6Partition.l0.eq_2 ..) ?_
    refine Ev.neg (by omega) ?_
    exact Ev.now _
  | succ d ih =>
    intro i hi
    refine Ev.step (fun _ => spec_l6Partition.l0.eq_2 ..) ?_
    refine Ev.pos (by omega) ?_
    refine Ev.pos (by omega) ?_
    refine Ev.pos (by omega) ?_
    rw [w64s (n := p.length) (by omega) (by omega), rdn, List.range'_succ, List.all_cons, spec_l1In_eq]
    refine Ev.bind1 ?_
    refine Ev.ite (fun h1 => ?_) (fun h => (Ev.now _).to (by simp [partAt] at h ⊢; omega))
    have h2 := of_decide_eq_true h1
    refine Ev.pos (by omega) ?_
    refine Ev.pos (by omega) ?_
    have e : rd p (gd p i) = gd p (gd p i).toNat := rfl
    rw [e]
    refine Ev.ite (fun h => ?_) (fun h => (Ev.now _).to (by simp [partAt]; omega))
    refine (ih (i + 1) (by omega)).to ?_
    have : partAt p i = true := by simp [partAt]; omega
    rw [this]
    simp
theorem spec_l6Partition_ev (n : Int) (p : List Int) (hl : p.length ≤ 35184372088832) : Ev (fun k => spec_l6Partition.f k n p) (partB n p) := by
  unfold spec_l6Partition.f partB
  refine Ev.ite (fun h => ?_) (fun h => ?_)
  · rw [← h]
    refine (spec_l6Partition_loop p hl p.length 0 (by omega)).to ?_
    simp
  · exact (Ev.now _).to (by simp [h])

/-! finer -/
/-- Is p finer than q, from place i on. -/
def finAt (p q : List Int) (i : Nat) : Bool := decide (gd q (gd p i).toNat = gd q i)
def finB (p q : List Int) : Bool := (List.range' 0 p.length).all (finAt p q)
def twoB (n : Int) (p q : List Int) : Bool := sizeB n && (partB n p && partB n q)
theorem partAt_of {n : Int} {p : List Int} (h : partB n p = true) {i : Nat} (hi : i < p.length) : 0 ≤ gd p i ∧ gd p i ≤ i ∧ gd p (gd p i).toNat = gd p i := by
  simp only [partB, Bool.and_eq_true, List.all_eq_true, List.mem_range'_1, decide_eq_true_eq] at h
  have := h.2 i ⟨by omega, by omega⟩
  simpa [partAt] using this
theorem partB_len {n : Int} {p : List Int} (h : partB n p = true) : (p.length : Int) = n := by
  simp only [partB, Bool.and_eq_true, decide_eq_true_eq] at h
  exact h.1
theorem impl_arePartitions_ev (n : Int) (p q : List Int) (hp : p.length ≤ 35184372088832) (hq : q.length ≤ 35184372088832) : Ev (fun k => impl_arePartitions.f k n p q) (twoB n p q) := by
  unfold impl_arePartitions.f
  rw [impl_isSize_eq]
  refine Ev.bind1 (Ev.ite (fun h => ?_) (fun h => ?_))
  · refine (impl_isPartition_ev n p hp).bind (Ev.ite (fun h1 => ?_) (fun h1 => ?_))
    · refine (impl_isPartition_ev n q hq).bind ?_
      exact (Ev.now _).to (by simp [twoB, h, h1])
    · exact (Ev.now _).to (by simp [twoB, h1])
  · exact (Ev.now _).to (by simp [twoB, h])
theorem spec_l6Two_ev (n : Int) (p q : List Int) (hp : p.length ≤ 35184372088832) (hq : q.length ≤ 35184372088832) : Ev (fun k => spec_l6Two.f k n p q) (twoB n p q) := by
  unfold spec_l6Two.f
  rw [spec_l6Size_eq]
  refine Ev.bind1 (Ev.ite (fun h => ?_) (fun h => ?_))
  · refine (spec_l6Partition_ev n p hp).bind (Ev.ite (fun h1 => ?_) (fun h1 => ?_))
    · refine (spec_l6Partition_ev n q hq).bind ?_
      exact (Ev.now _).to (by simp [twoB, h, h1])
    · exact (Ev.now _).to (by simp [twoB, h1])
  · exact (Ev.now _).to (by simp [twoB, h])
theorem twoB_of {n : Int} {p q : List Int} (h : twoB n p q = true) : sizeB n = true ∧ partB n p = true ∧ partB n q = true ∧ q.length = p.length ∧ p.length ≤ 8 := by
  simp only [twoB, Bool.and_eq_true] at h
  have h1 := partB_len h.2.1
  have h2 := partB_len h.2.2
  have h3 := h.1
  simp only [sizeB, decide_eq_true_eq] at h3
  exact ⟨h.1, h.2.1, h.2.2, by omega, by omega⟩

/-! join -/
/-- Puts the blocks of two elements together. -/
def uni (p : List Int) (x y : Int) : List Int :=
  p.map fun v => if v = max (gd p x.toNat) (gd p y.toNat) then min (gd p x.toNat) (gd p y.toNat) else v
theorem uni_length (p : List Int) (x y : Int) : (uni p x y).length = p.length := by simp [uni]
theorem gd_map (f : Int → Int) (p : List Int) {i : Nat} (h : i < p.length) : gd (p.map f) i = f (gd p i) := by
  rw [gd_lt (by simpa using h), gd_lt h]
  simp
theorem impl_unite_loop (q : List Int) (a b : Int) (hq : q.length ≤ 35184372088832) : ∀ (d i : Nat) (x : List Int), i + d = q.length → x.length = q.length →
    (∀ j, j < i → gd x j = if gd q j = b then a else gd q j) → (∀ j, i ≤ j → gd x j = gd q j) →
    Ev (fun k => impl_unite.l0 k x a b (q.length : Int) (i : Int)) (true, q.map fun v => if v = b then a else v) := by
  intro d
  induction d with
  | zero =>
    intro i x hi hx h1 h2
    refine Ev.step (fun _ => impl_unite.l0.eq_2 ..) (Ev.neg (by omega) ?_)
    have : x = q.map fun v => if v = b then a else v := ext_gd (by simp [hx]) (fun j hj => by rw [gd_map _ _ (by omega)]; exact h1 j (by omega))
    rw [this]
    exact Ev.now _
  | succ d ih =>
    intro i x hi hx h1 h2
    refine Ev.step (fun _ => impl_unite.l0.eq_2 ..) ?_
    rw [rdn, w64s (n := q.length) (by omega) (by omega), Int.toNat_natCast]
    refine Ev.pos (by omega) (Ev.pos (by omega) (Ev.pos (by omega) (Ev.ite (fun h => ?_) (fun h => ?_))))
    · refine ih (i + 1) _ (by omega) (by simpa using hx) (fun j hj => ?_) (fun j hj => ?_)
      · by_cases e : j = i
        · subst e
          rw [set_at _ (by omega), if_pos (by rw [← h2 j (Nat.le_refl _)]; exact h)]
        · rw [set_ne _ (fun e' => e e'.symm)]
          exact h1 j (by omega)
      · rw [set_ne _ (by omega)]
        exact h2 j (by omega)
    · refine ih (i + 1) _ (by omega) hx (fun j hj => ?_) (fun j hj => h2 j (by omega))
      by_cases e : j = i
      · subst e
        rw [h2 j (Nat.le_refl _)] at h ⊢
        rw [if_neg h]
      · exact h1 j (by omega)
theorem impl_unite_ev (p : List Int) (x y : Nat) (hx : x < p.length) (hy : y < p.length) (hp : p.length ≤ 35184372088832) :
    Ev (fun k => impl_unite.f k p (x : Int) (y : Int)) (decide (gd p x ≠ gd p y), uni p x y) := by
  unfold impl_unite.f
  simp only [rdn]
  have key : ∀ a b : Int, a = min (gd p x) (gd p y) → b = max (gd p x) (gd p y) → gd p x ≠ gd p y → Ev (fun k => impl_unite.j0 k p a b) (decide (gd p x ≠ gd p y), uni p x y) := by
    intro a b ha hb hne
    refine Ev.step (fun _ => impl_unite.j0.eq_2 ..) ?_
    refine (impl_unite_loop p a b hp p.length 0 p (by omega) rfl (fun j hj => by omega) (fun j _ => rfl)).to ?_
    simp only [uni, Int.toNat_natCast, ← ha, ← hb]
    simp [hne]
  refine Ev.pos (by omega) (Ev.pos (by omega) (Ev.pos (by omega) (Ev.pos (by omega) (Ev.ite (fun h => ?_) (fun h => Ev.ite (fun h' => ?_) (fun h' => ?_))))))
  · refine (Ev.now _).to ?_
    have : uni p x y = p := by
      simp only [uni, Int.toNat_natCast, h, Int.max_self, Int.min_self]
      apply ext_gd (by simp)
      intro j hj
      rw [gd_map _ _ (by simpa using hj)]
      split <;> simp_all
    rw [this]
    simp [h]
  · exact key _ _ (by omega) (by omega) h
  · exact key _ _ (by omega) (by omega) h
theorem spec_l1Least_eq (a b : Int) : spec_l1Least.f a b = some (min a b) := by
  unfold spec_l1Least.f
  split
  · congr 1; omega
  · congr 1; omega
theorem spec_l1Most_eq (a b : Int) : spec_l1Most.f a b = some (max a b) := by
  unfold spec_l1Most.f
  split
  · congr 1; omega
  · congr 1; omega
theorem spec_l6Unite_loop (p : List Int) (a b : Int) (hp : p.length < 17592186044416) : ∀ (d i : Nat), i + d = p.length →
    Ev (fun k => spec_l6Unite.l0 k p a b ((p.map fun v => if v = b then a else v).take i) (i : Int)) (p.map fun v => if v = b then a else v) := by
  intro d
  induction d with
  | zero =>
    intro i hi
    refine Ev.step (fun _ => spec_l6Unite.l0.eq_2 ..) (Ev.neg (by omega) ?_)
    rw [List.take_of_length_le (by simp; omega)]
    exact Ev.now _
  | succ d ih =>
    intro i hi
    have hl : ((p.map fun v => if v = b then a else v).take i).length = i := by simp; omega
    refine Ev.step (fun _ => spec_l6Unite.l0.eq_2 ..) ?_
    rw [rdn, w64s (n := p.length) (by omega) (by omega)]
    have e := take_snoc (p.map fun v => if v = b then a else v) (i := i) (by simp; omega)
    rw [gd_map _ _ (by omega)] at e
    refine Ev.pos (by omega) (Ev.pos (by omega) (Ev.ite (fun h => Ev.pos (by omega) ?_) (fun h => Ev.pos (by omega) ?_)))
    · rw [if_pos h] at e
      rw [e]
      exact ih (i + 1) (by omega)
    · rw [if_neg h] at e
      rw [e]
      exact ih (i + 1) (by omega)
theorem spec_l6Unite_ev (p : List Int) (x y : Nat) (hx : x < p.length) (hy : y < p.length) (hp : p.length < 17592186044416) :
    Ev (fun k => spec_l6Unite.f k p (x : Int) (y : Int)) (uni p x y) := by
  unfold spec_l6Unite.f
  simp only [rdn, spec_l1Least_eq, spec_l1Most_eq]
  refine Ev.pos (by omega) (Ev.pos (by omega) (Ev.pos (by omega) (Ev.pos (by omega) (Ev.bind1 (Ev.bind1 ?_)))))
  have := spec_l6Unite_loop p (min (gd p x) (gd p y)) (max (gd p x) (gd p y)) hp p.length 0 (by omega)
  rw [List.take_zero] at this
  exact this
/-- The join of p and q: in turn each element with its q. -/
def joinFrom (q : List Int) : Nat → Nat → List Int → List Int
  | 0, _, r => r
  | d + 1, i, r => joinFrom q d (i + 1) (uni r i (gd q i))
def joinP (p q : List Int) : List Int := joinFrom q q.length 0 p
theorem joinFrom_length (q : List Int) : ∀ (d i : Nat) (r : List Int), (joinFrom q d i r).length = r.length := by
  intro d
  induction d with
  | zero => intro i r; rfl
  | succ d ih => intro i r; rw [joinFrom, ih, uni_length]
theorem impl_clone_eq (l : List Int) (hl : l.length < 17592186044416) : impl_clone.f l = some l := by
  unfold impl_clone.f
  simp [hl]
theorem spec_l1Own_eq (l : List Int) (hl : l.length < 17592186044416) : spec_l1Own.f l = some l := by
  unfold spec_l1Own.f
  simp [hl]
theorem impl_join_loop {n : Int} (q : List Int) (hq : partB n q = true) (hl : q.length < 17592186044416) : ∀ (d i : Nat) (r : List Int), i + d = q.length → r.length = q.length →
    Ev (fun k => impl_join.l0 k r q (q.length : Int) (i : Int)) (joinFrom q d i r) := by
  intro d
  induction d with
  | zero =>
    intro i r hi hr
    refine Ev.step (fun _ => impl_join.l0.eq_2 ..) (Ev.neg (by omega) (Ev.now _))
  | succ d ih =>
    intro i r hi hr
    have hqi := partAt_of hq (i := i) (by omega)
    refine Ev.step (fun _ => impl_join.l0.eq_2 ..) ?_
    rw [rdn, w64s (n := q.length) (by omega) (by omega)]
    refine Ev.pos (by omega) (Ev.pos (by omega) (Ev.pos (by omega) ?_))
    have e : gd q i = ((gd q i).toNat : Int) := by omega
    have := impl_unite_ev r i (gd q i).toNat (by omega) (by omega) (by omega)
    rw [← e] at this
    refine this.bind ?_
    exact ih (i + 1) _ (by omega) (by rw [uni_length, hr])
theorem impl_join_ev {n : Int} (p q : List Int) (hq : partB n q = true) (hp : p.length = q.length) (hl : q.length < 17592186044416) : Ev (fun k => impl_join.f k p q) (joinP p q) := by
  unfold impl_join.f
  rw [impl_clone_eq p (by omega)]
  exact Ev.bind1 (impl_join_loop q hq hl q.length 0 p (by omega) hp)
theorem spec_l6Join_loop {n : Int} (q : List Int) (hq : partB n q = true) (hl : q.length < 17592186044416) : ∀ (d i : Nat) (r : List Int), i + d = q.length → r.length = q.length →
    Ev (fun k => spec_l6Join.l0 k q r (i : Int)) (joinFrom q d i r) := by
  intro d
  induction d with
  | zero =>
    intro i r hi hr
    refine Ev.step (fun _ => spec_l6Join.l0.eq_2 ..) (Ev.neg (by omega) (Ev.now _))
  | succ d ih =>
    intro i r hi hr
    have hqi := partAt_of hq (i := i) (by omega)
    refine Ev.step (fun _ => spec_l6Join.l0.eq_2 ..) ?_
    rw [rdn, w64s (n := q.length) (by omega) (by omega)]
    refine Ev.pos (by omega) (Ev.pos (by omega) ?_)
    have e : gd q i = ((gd q i).toNat : Int) := by omega
    have := spec_l6Unite_ev r i (gd q i).toNat (by omega) (by omega) (by omega)
    rw [← e] at this
    refine this.bind ?_
    exact ih (i + 1) _ (by omega) (by rw [uni_length, hr])
theorem spec_l6Join_ev {n : Int} (p q : List Int) (hq : partB n q = true) (hp : p.length = q.length) (hl : q.length < 17592186044416) : Ev (fun k => spec_l6Join.f k p q) (joinP p q) := by
  unfold spec_l6Join.f
  rw [spec_l1Own_eq p (by omega)]
  exact Ev.bind1 (spec_l6Join_loop q hq hl q.length 0 p (by omega) hp)

/-! FnExactJoinPartitions -/
def jp (n : Int) (p q : List Int) : List Int × Bool := if twoB n p q = true then (joinP p q, true) else ([], false)
theorem jp_len (n : Int) (p q : List Int) : (jp n p q).1.length ≤ p.length := by
  unfold jp
  split
  · simp only [joinP, joinFrom_length]; omega
  · simp
theorem spec_JoinPartitions_ev (n : Int) (p q : List Int) (hp : p.length < 17592186044416) (hq : q.length < 17592186044416) : Ev (fun k => spec_JoinPartitions.f k n p q) (jp n p q) := by
  unfold spec_JoinPartitions.f
  refine (spec_l6Two_ev n p q (by omega) (by omega)).bind (Ev.ite (fun h => ?_) (fun h => ?_))
  · have h' := twoB_of h
    refine (spec_l6Join_ev p q h'.2.2.1 h'.2.2.2.1.symm hq).bind ?_
    exact (Ev.now _).to (by simp [jp, h])
  · exact (Ev.now _).to (by simp [jp, h])
theorem impl_JoinPartitions_ev (n : Int) (p q : List Int) (hp : p.length < 17592186044416) (hq : q.length < 17592186044416) : Ev (fun k => impl_JoinPartitions.f k n p q) (jp n p q) := by
  unfold impl_JoinPartitions.f
  refine (impl_arePartitions_ev n p q (by omega) (by omega)).bind (Ev.ite (fun h => ?_) (fun h => ?_))
  · have h' := twoB_of h
    refine (impl_join_ev p q h'.2.2.1 h'.2.2.2.1.symm hq).bind ?_
    exact (Ev.now _).to (by simp [jp, h])
  · exact (Ev.now _).to (by simp [jp, h])
theorem FnExactJoinPartitions : laws_FnExactJoinPartitions.Pure := by
  intro n p q _ _ _ _ _ _ _
  refine Ev.rounds ?_
  unfold laws_FnExactJoinPartitions.f
  refine Ev.ite (fun h => Ev.now _) (fun h => Ev.ite (fun h => Ev.now _) (fun h' => ?_))
  have hp : p.length ≤ 1048576 := by omega
  have hq : q.length ≤ 1048576 := by omega
  have hr := jp_len n p q
  refine (toIntS_ev p (by omega)).bind ((toIntS_ev q (by omega)).bind ?_)
  refine (spec_JoinPartitions_ev n p q (by omega) (by omega)).bind ?_
  refine (toIntS_ev p (by omega)).bind ((toIntS_ev q (by omega)).bind ?_)
  refine (impl_JoinPartitions_ev n p q (by omega) (by omega)).bind ?_
  refine (eqIntS_same _ (by omega)).bind (Ev.pos rfl ?_)
  refine Ev.step (fun _ => laws_FnExactJoinPartitions.j0.eq_2 ..) (Ev.neg (by simp) ?_)
  refine (toIntS_ev p (by omega)).bind ((eqIntS_same p (by omega)).bind (Ev.pos rfl ?_))
  refine (toIntS_ev q (by omega)).bind ((eqIntS_same q (by omega)).bind (Ev.pos rfl ?_))
  refine (markIntS_ev p 1 (by omega) (by omega)).bind ((markIntS_ev q _ (by simp only []; omega) (by simp only []; omega)).bind (Ev.neg (by simp only []; omega) ?_))
  refine (eqIntS_same _ (by omega)).bind (Ev.pos rfl ?_)
  refine Ev.step (fun _ => laws_FnExactJoinPartitions.j1.eq_2 ..) (Ev.neg (by simp) ?_)
  refine (markIntS_ev _ 1 (by omega) (by omega)).bind ((heldIntS_ev _ 1 (by omega) (by omega)).bind (Ev.neg (by omega) (Ev.pos rfl ?_)))
  refine (toIntS_ev p (by omega)).bind ((toIntS_ev q (by omega)).bind ?_)
  refine (impl_JoinPartitions_ev n p q (by omega) (by omega)).bind ?_
  refine (eqIntS_same _ (by omega)).bind (Ev.pos rfl ?_)
  refine Ev.step (fun _ => laws_FnExactJoinPartitions.j2.eq_2 ..) (Ev.neg (by simp) ?_)
  refine (heldIntS_ev _ 1 (by omega) (by omega)).bind ?_
  exact Ev.neg (by omega) (Ev.pos rfl (Ev.now _))

end Go.Proofs.Ytajabnbonkophaa.Pure
