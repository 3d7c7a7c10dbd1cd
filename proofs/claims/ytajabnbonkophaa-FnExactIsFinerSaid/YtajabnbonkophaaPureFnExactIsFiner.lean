/- The pure law of FnExactIsFiner: on lists of whole numbers, the printed functions answer alike; no condition beside the printed bounds. -/
import Derived.Test.YtajabnbonkophaaPFnExactIsFinerx2
import Derived.Test.YtajabnbonkophaaWSized
namespace Go.Proofs.Ytajabnbonkophaa
open Go.ChangeShapes Go.WideShapes
/-- The printed row names this word without its first part. -/
theorem PrintWords.sized_ints {H : Type} {enc : TypeId × Value → H} {P : Program} {W : World} {base : Nat} {spare : Nat → Bool} {held : Bool} {t e : TypeId} {k : IntKind} {a : Option Addr} {len cap : Nat} {d : DataW H} {ps : List MemPlace} {ts : List TypeId} {ds : List (DataW H)} {j : Nat}
    (hsz : (DataW.weightsEach P ts ds).all (· ≤ reachBytes) = true) (ht : ts[j]? = some t) (hd : ds[j]? = some d) (hu : P.underlying t = some (.slice e)) (he : P.underlying e = some (.int k)) (hc : P.cellsOf e = 1) {B : Nat} (hB : P.bytesOf e = B)
    (h : DataW.Trod enc P W base spare held t (.slice a len cap) d ps) : len * B ≤ 140737488351232 :=
  Go.Proofs.YtajabnbonkophaaW.PrintWords.sized_ints hsz ht hd hu he hc hB h
end Go.Proofs.Ytajabnbonkophaa
namespace Go.Proofs.Ytajabnbonkophaa.Pure
open Go.RowKit Go.Proofs.Ytajabnbonkophaa.PFnExactIsFiner Go.Proofs.YtajabnbonkophaaW.PrintWords Go.Proofs.YtajabnbonkophaaW.PrintLast
set_option linter.unusedVariables false
set_option linter.unusedSimpArgs false

/-! base -/
theorem Ev.pos {α : Type} {c : Prop} [Decidable c] {f g : Nat → Option α} {r : α} (h : c) (hf : Ev f r) : Ev (fun k => if c then f k else g k) r := by
  simpa only [if_pos h] using hf
theorem Ev.neg {α : Type} {c : Prop} [Decidable c] {f g : Nat → Option α} {r : α} (h : ¬ c) (hg : Ev g r) : Ev (fun k => if c then f k else g k) r := by
  simpa only [if_neg h] using hg
theorem Ev.ite {α : Type} {c : Prop} [Decidable c] {f g : Nat → Option α} {r : α} (h : c → Ev f r) (h' : ¬ c → Ev g r) : Ev (fun k => if c then f k else g k) r := by
  by_cases hc : c
  · exact Ev.pos hc (h hc)
  · exact Ev.neg hc (h' hc)
theorem Ev.bind1 {α β : Type} {x : α} {f : Nat → α → Option β} {r : β} (k : Ev (fun n => f n x) r) : Ev (fun n => (some x).bind (f n)) r := k
theorem _root_.Go.Proofs.YtajabnbonkophaaW.PrintWords.Ev.to {α : Type} {g : Nat → Option α} {r s : α} (h : Ev g r) (e : r = s) : Ev g s := e ▸ h
theorem w64 {x : Int} (h1 : -9223372036854775808 ≤ x) (h2 : x ≤ 9223372036854775807) : wrap64 x = x := by unfold wrap64; omega
theorem w64s {i n : Nat} (h : i < n) (hn : n ≤ 9223372036854775807) : wrap64 ((i : Int) + 1) = ((i + 1 : Nat) : Int) := by unfold wrap64; omega
/-- A list's member at a place. -/
def gd (l : List Int) (i : Nat) : Int := l.getD i 0
theorem rdn (xs : List Int) (i : Nat) : rd xs (i : Int) = gd xs i := by simp [rd, gd]
theorem gd_lt {xs : List Int} {i : Nat} (h : i < xs.length) : gd xs i = xs[i] := by simp [gd, List.getD, h]
theorem gd_eq {xs : List Int} {i : Nat} (h : i < xs.length) : xs[i]? = some (gd xs i) := by simp [gd, List.getD, h]
theorem set_self {x : List Int} {i : Nat} {v : Int} (h : gd x i = v) (hi : i < x.length) : x.set i v = x := by
  subst h
  rw [gd_lt hi, List.set_getElem_self]
theorem set_at {x : List Int} {i : Nat} (v : Int) (hi : i < x.length) : gd (x.set i v) i = v := by simp [gd, List.getD, hi]
theorem set_ne {x : List Int} {i j : Nat} (v : Int) (h : i ≠ j) : gd (x.set i v) j = gd x j := by simp only [gd, List.getD]; rw [List.getElem?_set_ne h]
theorem ext_gd {a b : List Int} (h : a.length = b.length) (e : ∀ i, i < a.length → gd a i = gd b i) : a = b := by
  apply List.ext_getElem h
  intro i h1 h2
  have := e i h1
  rwa [gd_lt h1, gd_lt h2] at this
theorem take_snoc (l : List Int) {i : Nat} (h : i < l.length) : l.take i ++ [gd l i] = l.take (i + 1) := by
  rw [gd_lt h, List.take_append_getElem]

/-! ints -/
/-- The numbers from a on, n of them. -/
def asc (n : Nat) (a : Int) : List Int := (List.range n).map fun (j : Nat) => a + (j : Int)
theorem asc_length (n : Nat) (a : Int) : (asc n a).length = n := by simp [asc]
theorem asc_at {n i : Nat} (a : Int) (h : i < n) : gd (asc n a) i = a + i := by simp [asc, gd, List.getD, h]

theorem toIntS_loop (l : List Int) (hl : l.length ≤ 35184372088832) : ∀ (d i : Nat) (x : List Int), i + d = l.length → x.length = l.length → (∀ j, j < i → gd x j = gd l j) → Ev (fun k => laws_toIntS.l0 k l x (i : Int)) l := by
  intro d
  induction d with
  | zero =>
    intro i x hi hx h
    refine Ev.step (fun _ => laws_toIntS.l0.eq_2 ..) ?_
    refine Ev.neg (by omega) ?_
    have : x = l := by
      apply List.ext_getElem hx
      intro j h1 h2
      have := h j (by omega)
      simpa [gd, List.getD, h1, h2] using this
    subst this
    exact Ev.now _
  | succ d ih =>
    intro i x hi hx h
    refine Ev.step (fun _ => laws_toIntS.l0.eq_2 ..) ?_
    refine Ev.pos (by omega) ?_
    refine Ev.pos (by omega) ?_
    refine Ev.pos (by omega) ?_
    rw [w64s (n := l.length) (by omega) (by omega), rdn, Int.toNat_natCast]
    refine ih (i + 1) _ (by omega) (by simpa using hx) ?_
    intro j hj
    by_cases e : j = i
    · subst e
      simp [gd, List.getD, show j < x.length by omega]
    · have := h j (by omega)
      simp only [gd, List.getD] at this ⊢
      rw [List.getElem?_set_ne (by omega)]
      exact this
theorem toIntS_ev (l : List Int) (hl : l.length ≤ 35184372088832) : Ev (fun k => laws_toIntS.f k l) l := by
  unfold laws_toIntS.f
  refine Ev.pos (by omega) ?_
  refine Ev.pos (by omega) ?_
  exact toIntS_loop l hl l.length 0 _ (by omega) (by simp) (fun j hj => by omega)

theorem eqIntS_loop (a b : List Int) (hb : b.length = a.length) (hl : a.length ≤ 35184372088832) : ∀ (d i : Nat), i + d = a.length → Ev (fun k => laws_eqIntS.l0 k a b (i : Int)) (decide (a.drop i = b.drop i)) := by
  intro d
  induction d with
  | zero =>
    intro i hi
    refine Ev.step (fun _ => laws_eqIntS.l0.eq_2 ..) ?_
    refine Ev.neg (by omega) ?_
    refine (Ev.now _).to ?_
    rw [List.drop_of_length_le (by omega), List.drop_of_length_le (by omega)]
    simp
  | succ d ih =>
    intro i hi
    refine Ev.step (fun _ => laws_eqIntS.l0.eq_2 ..) ?_
    refine Ev.pos (by omega) ?_
    refine Ev.pos (by omega) ?_
    refine Ev.pos (by omega) ?_
    rw [w64s (n := a.length) (by omega) (by omega), rdn, rdn]
    have e1 : a.drop i = gd a i :: a.drop (i + 1) := by rw [gd_lt (by omega)]; exact List.drop_eq_getElem_cons (by omega)
    have e2 : b.drop i = gd b i :: b.drop (i + 1) := by rw [gd_lt (by omega)]; exact List.drop_eq_getElem_cons (by omega)
    refine Ev.ite (fun h => ?_) (fun h => ?_)
    · refine (ih (i + 1) (by omega)).to ?_
      rw [e1, e2, h]
      simp
    · refine (Ev.now _).to ?_
      rw [e1, e2]
      simp [h]
theorem eqIntS_ev (a b : List Int) (hl : a.length ≤ 35184372088832) : Ev (fun k => laws_eqIntS.f k a b) (decide (a = b)) := by
  unfold laws_eqIntS.f
  refine Ev.ite (fun h => ?_) (fun h => ?_)
  · exact eqIntS_loop a b (by omega) hl a.length 0 (by omega)
  · refine (Ev.now _).to ?_
    have : a ≠ b := fun e => h (by rw [e])
    simp [this]
theorem eqIntS_same (a : List Int) (hl : a.length ≤ 35184372088832) : Ev (fun k => laws_eqIntS.f k a a) true := (eqIntS_ev a a hl).to (by simp)

/-! part -/
/-- What a partition's list owes at a place. -/
def partAt (p : List Int) (i : Nat) : Bool := decide (0 ≤ gd p i) && (decide (gd p i ≤ (i : Int)) && decide (gd p (gd p i).toNat = gd p i))
def partB (n : Int) (p : List Int) : Bool := decide ((p.length : Int) = n) && (List.range' 0 p.length).all (partAt p)
def sizeB (n : Int) : Bool := decide (1 ≤ n ∧ n ≤ 8)
theorem impl_isSize_eq (n : Int) : impl_isSize.f n = some (sizeB n) := by
  unfold impl_isSize.f sizeB
  split
  · congr 1; simp; omega
  · congr 1; simp; omega
theorem spec_l1In_eq (a b c : Int) : spec_l1In.f a b c = some (decide (b ≤ a ∧ a ≤ c)) := by
  unfold spec_l1In.f
  split
  · congr 1; simp; omega
  · congr 1; simp; omega
theorem spec_l6Size_eq (n : Int) : spec_l6Size.f n = some (sizeB n) := by
  unfold spec_l6Size.f
  rw [spec_l1In_eq]
  rfl
theorem impl_isPartition_loop (p : List Int) (hl : p.length ≤ 35184372088832) : ∀ (d i : Nat), i + d = p.length → Ev (fun k => impl_isPartition.l0 k p p (p.length : Int) (i : Int)) ((List.range' i d).all (partAt p)) := by
  intro d
  induction d with
  | zero =>
    intro i hi
    refine Ev.step (fun _ => impl_isPartition.l0.eq_2 ..) ?_
    refine Ev.neg (by omega) ?_
    exact Ev.now _
  | succ d ih =>
    intro i hi
    refine Ev.step (fun _ => impl_isPartition.l0.eq_2 ..) ?_
    refine Ev.pos (by omega) ?_
    refine Ev.pos (by omega) ?_
    refine Ev.pos (by omega) ?_
    rw [w64s (n := p.length) (by omega) (by omega), rdn, List.range'_succ, List.all_cons]
    refine Ev.ite (fun h => (Ev.now _).to (by simp [partAt]; omega)) (fun h1 => ?_)
    refine Ev.ite (fun h => (Ev.now _).to (by simp [partAt]; omega)) (fun h2 => ?_)
    refine Ev.pos (by omega) ?_
    refine Ev.pos (by omega) ?_
    have e : rd p (gd p i) = gd p (gd p i).toNat := rfl
    rw [e]
    refine Ev.ite (fun h => ?_) (fun h => (Ev.now _).to (by simp [partAt]; omega))
    refine (ih (i + 1) (by omega)).to ?_
    have : partAt p i = true := by simp [partAt]; omega
    rw [this]
    simp
theorem impl_isPartition_ev (n : Int) (p : List Int) (hl : p.length ≤ 35184372088832) : Ev (fun k => impl_isPartition.f k n p) (partB n p) := by
  unfold impl_isPartition.f partB
  refine Ev.ite (fun h => ?_) (fun h => ?_)
  · refine (impl_isPartition_loop p hl p.length 0 (by omega)).to ?_
    simp [h]
  · exact (Ev.now _).to (by simp [h])
theorem spec_l6Partition_loop (p : List Int) (hl : p.length ≤ 35184372088832) : ∀ (d i : Nat), i + d = p.length → Ev (fun k => spec_l6Partition.l0 k (p.length : Int) p (i : Int)) ((List.range' i d).all (partAt p)) := by
  intro d
  induction d with
  | zero =>
    intro i hi
    refine Ev.step (fun _ => spec_l6Partition.l0.eq_2 ..) ?_
    refine Ev.neg (by omega) ?_
    exact Ev.now _
  | succ d ih =>
    intro i hi
    refine Ev.step (fun _ => spec_l6Partition.l0.eq_2 ..) ?_
    refine Ev.pos (by omega) ?_
    refine Ev.pos (by omega) ?_
    refine Ev.pos (by omega) ?_
    rw [w64s (n := p.length) (by omega) (by omega), rdn, List.range'_succ, List.all_cons, spec_l1In_eq]
    refine Ev.bind1 ?_
    refine Ev.ite (fun h1 => ?_) (fun h => (Ev.now _).to (by simp [partAt] at h ⊢; omega))
    have h2 := of_decide_eq_true h1
    refine Ev.pos (by omega) ?_
    refine Ev.pos (by omega) ?_
    have e : rd p (gd p i) = gd p (gd p i).toNat := rfl
    rw [e]
    refine Ev.ite (fun h => ?_) (fun h => (Ev.now _).to (by simp [partAt]; omega))
    refine (ih (i + 1) (by omega)).to ?_
    have : partAt p i = true := by simp [partAt]; omega
    rw [this]
    simp
theorem spec_l6Partition_ev (n : Int) (p : List Int) (hl : p.length ≤ 35184372088832) : Ev (fun k => spec_l6Partition.f k n p) (partB n p) := by
  unfold spec_l6Partition.f partB
  refine Ev.ite (fun h => ?_) (fun h => ?_)
  · rw [← h]
    refine (spec_l6Partition_loop p hl p.length 0 (by omega)).to ?_
    simp
  · exact (Ev.now _).to (by simp [h])

/-! finer -/
/-- Is p finer than q, from place i on. -/
def finAt (p q : List Int) (i : Nat) : Bool := decide (gd q (gd p i).toNat = gd q i)
def finB (p q : List Int) : Bool := (List.range' 0 p.length).all (finAt p q)
def twoB (n : Int) (p q : List Int) : Bool := sizeB n && (partB n p && partB n q)
theorem partAt_of {n : Int} {p : List Int} (h : partB n p = true) {i : Nat} (hi : i < p.length) : 0 ≤ gd p i ∧ gd p i ≤ i ∧ gd p (gd p i).toNat = gd p i := by
  simp only [partB, Bool.and_eq_true, List.all_eq_true, List.mem_range'_1, decide_eq_true_eq] at h
  have := h.2 i ⟨by omega, by omega⟩
  simpa [partAt] using this
theorem partB_len {n : Int} {p : List Int} (h : partB n p = true) : (p.length : Int) = n := by
  simp only [partB, Bool.and_eq_true, decide_eq_true_eq] at h
  exact h.1
theorem impl_arePartitions_ev (n : Int) (p q : List Int) (hp : p.length ≤ 35184372088832) (hq : q.length ≤ 35184372088832) : Ev (fun k => impl_arePartitions.f k n p q) (twoB n p q) := by
  unfold impl_arePartitions.f
  rw [impl_isSize_eq]
  refine Ev.bind1 (Ev.ite (fun h => ?_) (fun h => ?_))
  · refine (impl_isPartition_ev n p hp).bind (Ev.ite (fun h1 => ?_) (fun h1 => ?_))
    · refine (impl_isPartition_ev n q hq).bind ?_
      exact (Ev.now _).to (by simp [twoB, h, h1])
    · exact (Ev.now _).to (by simp [twoB, h1])
  · exact (Ev.now _).to (by simp [twoB, h])
theorem spec_l6Two_ev (n : Int) (p q : List Int) (hp : p.length ≤ 35184372088832) (hq : q.length ≤ 35184372088832) : Ev (fun k => spec_l6Two.f k n p q) (twoB n p q) := by
  unfold spec_l6Two.f
  rw [spec_l6Size_eq]
  refine Ev.bind1 (Ev.ite (fun h => ?_) (fun h => ?_))
  · refine (spec_l6Partition_ev n p hp).bind (Ev.ite (fun h1 => ?_) (fun h1 => ?_))
    · refine (spec_l6Partition_ev n q hq).bind ?_
      exact (Ev.now _).to (by simp [twoB, h, h1])
    · exact (Ev.now _).to (by simp [twoB, h1])
  · exact (Ev.now _).to (by simp [twoB, h])
theorem impl_finer_loop (n : Int) (p q : List Int) (hp : partB n p = true) (hq : q.length = p.length) (hl : p.length ≤ 35184372088832) : ∀ (d i : Nat), i + d = p.length → Ev (fun k => impl_finer.l0 k q p (p.length : Int) (i : Int)) ((List.range' i d).all (finAt p q)) := by
  intro d
  induction d with
  | zero =>
    intro i hi
    refine Ev.step (fun _ => impl_finer.l0.eq_2 ..) (Ev.neg (by omega) ?_)
    exact Ev.now _
  | succ d ih =>
    intro i hi
    have hpi := partAt_of hp (i := i) (by omega)
    refine Ev.step (fun _ => impl_finer.l0.eq_2 ..) ?_
    rw [w64s (n := p.length) (by omega) (by omega), rdn, rdn, List.range'_succ, List.all_cons]
    have e : rd q (gd p i) = gd q (gd p i).toNat := rfl
    rw [e]
    refine Ev.pos (by omega) (Ev.pos (by omega) (Ev.pos (by omega) (Ev.pos (by omega) (Ev.pos (by omega) (Ev.pos (by omega) ?_)))))
    refine Ev.ite (fun h => ?_) (fun h => (Ev.now _).to (by simp [finAt, h]))
    refine (ih (i + 1) (by omega)).to ?_
    have : finAt p q i = true := by simp [finAt, h]
    rw [this]
    simp
theorem impl_finer_ev (n : Int) (p q : List Int) (hp : partB n p = true) (hq : q.length = p.length) (hl : p.length ≤ 35184372088832) : Ev (fun k => impl_finer.f k p q) (finB p q) := by
  unfold impl_finer.f finB
  exact impl_finer_loop n p q hp hq hl p.length 0 (by omega)
theorem spec_l6Below_loop (n : Int) (p q : List Int) (hp : partB n p = true) (hq : q.length = p.length) (hl : p.length ≤ 35184372088832) : ∀ (d i : Nat), i + d = p.length → Ev (fun k => spec_l6Below.l0 k p q (i : Int)) ((List.range' i d).all (finAt p q)) := by
  intro d
  induction d with
  | zero =>
    intro i hi
    refine Ev.step (fun _ => spec_l6Below.l0.eq_2 ..) (Ev.neg (by omega) ?_)
    exact Ev.now _
  | succ d ih =>
    intro i hi
    have hpi := partAt_of hp (i := i) (by omega)
    refine Ev.step (fun _ => spec_l6Below.l0.eq_2 ..) ?_
    rw [w64s (n := p.length) (by omega) (by omega), rdn, rdn, List.range'_succ, List.all_cons]
    have e : rd q (gd p i) = gd q (gd p i).toNat := rfl
    rw [e]
    refine Ev.pos (by omega) (Ev.pos (by omega) (Ev.pos (by omega) (Ev.pos (by omega) (Ev.pos (by omega) ?_))))
    refine Ev.ite (fun h => ?_) (fun h => (Ev.now _).to (by simp [finAt, h]))
    refine (ih (i + 1) (by omega)).to ?_
    have : finAt p q i = true := by simp [finAt, h]
    rw [this]
    simp
theorem spec_l6Below_ev (n : Int) (p q : List Int) (hp : partB n p = true) (hq : q.length = p.length) (hl : p.length ≤ 35184372088832) : Ev (fun k => spec_l6Below.f k p q) (finB p q) := by
  unfold spec_l6Below.f finB
  exact spec_l6Below_loop n p q hp hq hl p.length 0 (by omega)
theorem twoB_of {n : Int} {p q : List Int} (h : twoB n p q = true) : sizeB n = true ∧ partB n p = true ∧ partB n q = true ∧ q.length = p.length ∧ p.length ≤ 8 := by
  simp only [twoB, Bool.and_eq_true] at h
  have h1 := partB_len h.2.1
  have h2 := partB_len h.2.2
  have h3 := h.1
  simp only [sizeB, decide_eq_true_eq] at h3
  exact ⟨h.1, h.2.1, h.2.2, by omega, by omega⟩

/-! FnExactIsFiner -/
theorem spec_IsFiner_ev (n : Int) (p q : List Int) (hp : p.length ≤ 35184372088832) (hq : q.length ≤ 35184372088832) : Ev (fun k => spec_IsFiner.f k n p q) (twoB n p q && finB p q, twoB n p q) := by
  unfold spec_IsFiner.f
  refine (spec_l6Two_ev n p q hp hq).bind (Ev.ite (fun h => ?_) (fun h => ?_))
  · have h' := twoB_of h
    rw [h]
    refine (spec_l6Below_ev n p q h'.2.1 h'.2.2.2.1 hp).bind ?_
    exact (Ev.now _).to (by simp)
  · exact (Ev.now _).to (by simp at h; simp [h])
theorem impl_IsFiner_ev (n : Int) (p q : List Int) (hp : p.length ≤ 35184372088832) (hq : q.length ≤ 35184372088832) : Ev (fun k => impl_IsFiner.f k n p q) (twoB n p q && finB p q, twoB n p q) := by
  unfold impl_IsFiner.f
  refine (impl_arePartitions_ev n p q hp hq).bind (Ev.ite (fun h => ?_) (fun h => ?_))
  · have h' := twoB_of h
    rw [h]
    refine (impl_finer_ev n p q h'.2.1 h'.2.2.2.1 hp).bind ?_
    exact (Ev.now _).to (by simp)
  · exact (Ev.now _).to (by simp at h; simp [h])
theorem FnExactIsFiner : laws_FnExactIsFiner.Pure := by
  intro n p q _ _ _ _ _ _ _
  refine Ev.rounds ?_
  unfold laws_FnExactIsFiner.f
  refine Ev.ite (fun h => Ev.now _) (fun h => Ev.ite (fun h => Ev.now _) (fun h' => ?_))
  have hp : p.length ≤ 35184372088832 := by omega
  have hq : q.length ≤ 35184372088832 := by omega
  refine (toIntS_ev p hp).bind ((toIntS_ev q hq).bind ?_)
  refine (spec_IsFiner_ev n p q hp hq).bind ?_
  refine (toIntS_ev p hp).bind ((toIntS_ev q hq).bind ?_)
  refine (impl_IsFiner_ev n p q hp hq).bind ?_
  simp only [bne_self_eq_false, Bool.false_eq_true, if_false]
  refine Ev.step (fun _ => laws_FnExactIsFiner.j0.eq_2 ..) (Ev.neg (by simp) ?_)
  refine (toIntS_ev p hp).bind ((eqIntS_same p hp).bind (Ev.pos rfl ?_))
  refine (toIntS_ev q hq).bind ((eqIntS_same q hq).bind (Ev.pos rfl ?_))
  exact Ev.now _

end Go.Proofs.Ytajabnbonkophaa.Pure
