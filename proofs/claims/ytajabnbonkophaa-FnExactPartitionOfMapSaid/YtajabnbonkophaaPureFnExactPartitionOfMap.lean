/- The pure law of FnExactPartitionOfMap: on lists of whole numbers, the printed functions answer alike; no condition beside the printed bounds. -/
import Derived.Test.YtajabnbonkophaaQ17
import Derived.Test.YtajabnbonkophaaWSized
namespace Go.Proofs.Ytajabnbonkophaa
open Go.ChangeShapes Go.WideShapes
/-- The printed row names this word without its first part. -/
theorem PrintWords.sized_ints {H : Type} {enc : TypeId × Value → H} {P : Program} {W : World} {base : Nat} {spare : Nat → Bool} {held : Bool} {t e : TypeId} {k : IntKind} {a : Option Addr} {len cap : Nat} {d : DataW H} {ps : List MemPlace} {ts : List TypeId} {ds : List (DataW H)} {j : Nat}
    (hsz : (DataW.weightsEach P ts ds).all (· ≤ reachBytes) = true) (ht : ts[j]? = some t) (hd : ds[j]? = some d) (hu : P.underlying t = some (.slice e)) (he : P.underlying e = some (.int k)) (hc : P.cellsOf e = 1) {B : Nat} (hB : P.bytesOf e = B)
    (h : DataW.Trod enc P W base spare held t (.slice a len cap) d ps) : len * B ≤ 140737488351232 :=
  Go.Proofs.YtajabnbonkophaaW.PrintWords.sized_ints hsz ht hd hu he hc hB h
end Go.Proofs.Ytajabnbonkophaa
namespace Go.Proofs.Ytajabnbonkophaa.Pure
open Go.RowKit Go.Proofs.Ytajabnbonkophaa.Q Go.Proofs.YtajabnbonkophaaW.PrintWords Go.Proofs.YtajabnbonkophaaW.PrintLast
set_option linter.unusedVariables false
set_option linter.unusedSimpArgs false

/-! base -/
theorem Ev.pos {α : Type} {c : Prop} [Decidable c] {f g : Nat → Option α} {r : α} (h : c) (hf : Ev f r) : Ev (fun k => if c then f k else g k) r := by
  simpa only [if_pos h] using hf
theorem Ev.neg {α : Type} {c : Prop} [Decidable c] {f g : Nat → Option α} {r : α} (h : ¬ c) (hg : Ev g r) : Ev (fun k => if c then f k else g k) r := by
  simpa only [if_neg h] using hg
theorem Ev.ite {α : Type} {c : Prop} [Decidable c] {f g : Nat → Option α} {r : α} (h : c → Ev f r) (h' : ¬ c → Ev g r) : Ev (fun k => if c then f k else g k) r := by
  by_cases hc : c
  · exact Ev.pos hc (h hc)
  · exact Ev.neg hc (h' hc)
theorem Ev.bind1 {α β : Type} {x : α} {f : Nat → α → Option β} {r : β} (k : Ev (fun n => f n x) r) : Ev (fun n => (some x).bind (f n)) r := k
theorem _root_.Go.Proofs.YtajabnbonkophaaW.PrintWords.Ev.to {α : Type} {g : Nat → Option α} {r s : α} (h : Ev g r) (e : r = s) : Ev g s := e ▸ h
theorem w64 {x : Int} (h1 : -9223372036854775808 ≤ x) (h2 : x ≤ 9223372036854775807) : wrap64 x = x := by unfold wrap64; omega
theorem w64s {i n : Nat} (h : i < n) (hn : n ≤ 9223372036854775807) : wrap64 ((i : Int) + 1) = ((i + 1 : Nat) : Int) := by unfold wrap64; omega
/-- A list's member at a place. -/
def gd (l : List Int) (i : Nat) : Int := l.getD i 0
theorem rdn (xs : List Int) (i : Nat) : rd xs (i : Int) = gd xs i := by simp [rd, gd]
theorem gd_lt {xs : List Int} {i : Nat} (h : i < xs.length) : gd xs i = xs[i] := by simp [gd, List.getD, h]
theorem gd_eq {xs : List Int} {i : Nat} (h : i < xs.length) : xs[i]? = some (gd xs i) := by simp [gd, List.getD, h]
theorem set_self {x : List Int} {i : Nat} {v : Int} (h : gd x i = v) (hi : i < x.length) : x.set i v = x := by
  subst h
  rw [gd_lt hi, List.set_getElem_self]
theorem set_at {x : List Int} {i : Nat} (v : Int) (hi : i < x.length) : gd (x.set i v) i = v := by simp [gd, List.getD, hi]
theorem set_ne {x : List Int} {i j : Nat} (v : Int) (h : i ≠ j) : gd (x.set i v) j = gd x j := by simp only [gd, List.getD]; rw [List.getElem?_set_ne h]
theorem ext_gd {a b : List Int} (h : a.length = b.length) (e : ∀ i, i < a.length → gd a i = gd b i) : a = b := by
  apply List.ext_getElem h
  intro i h1 h2
  have := e i h1
  rwa [gd_lt h1, gd_lt h2] at this
theorem take_snoc (l : List Int) {i : Nat} (h : i < l.length) : l.take i ++ [gd l i] = l.take (i + 1) := by
  rw [gd_lt h, List.take_append_getElem]

/-! ints -/
/-- The numbers from a on, n of them. -/
def asc (n : Nat) (a : Int) : List Int := (List.range n).map fun (j : Nat) => a + (j : Int)
theorem asc_length (n : Nat) (a : Int) : (asc n a).length = n := by simp [asc]
theorem asc_at {n i : Nat} (a : Int) (h : i < n) : gd (asc n a) i = a + i := by simp [asc, gd, List.getD, h]

theorem toIntS_loop (l : List Int) (hl : l.length ≤ 35184372088832) : ∀ (d i : Nat) (x : List Int), i + d = l.length → x.length = l.length → (∀ j, j < i → gd x j = gd l j) → Ev (fun k => laws_toIntS.l0 k l x (i : Int)) l := by
  intro d
  induction d with
  | zero =>
    intro i x hi hx h
    refine Ev.step (fun _ => laws_toIntS.l0.eq_2 ..) ?_
    refine Ev.neg (by omega) ?_
    have : x = l := by
      apply List.ext_getElem hx
      intro j h1 h2
      have := h j (by omega)
      simpa [gd, List.getD, h1, h2] using this
    subst this
    exact Ev.now _
  | succ d ih =>
    intro i x hi hx h
    refine Ev.step (fun _ => laws_toIntS.l0.eq_2 ..) ?_
    refine Ev.pos (by omega) ?_
    refine Ev.pos (by omega) ?_
    refine Ev.pos (by omega) ?_
    rw [w64s (n := l.length) (by omega) (by omega), rdn, Int.toNat_natCast]
    refine ih (i + 1) _ (by omega) (by simpa using hx) ?_
    intro j hj
    by_cases e : j = i
    · subst e
      simp [gd, List.getD, show j < x.length by omega]
    · have := h j (by omega)
      simp only [gd, List.getD] at this ⊢
      rw [List.getElem?_set_ne (by omega)]
      exact this
theorem toIntS_ev (l : List Int) (hl : l.length ≤ 35184372088832) : Ev (fun k => laws_toIntS.f k l) l := by
  unfold laws_toIntS.f
  refine Ev.pos (by omega) ?_
  refine Ev.pos (by omega) ?_
  exact toIntS_loop l hl l.length 0 _ (by omega) (by simp) (fun j hj => by omega)

theorem eqIntS_loop (a b : List Int) (hb : b.length = a.length) (hl : a.length ≤ 35184372088832) : ∀ (d i : Nat), i + d = a.length → Ev (fun k => laws_eqIntS.l0 k a b (i : Int)) (decide (a.drop i = b.drop i)) := by
  intro d
  induction d with
  | zero =>
    intro i hi
    refine Ev.step (fun _ => laws_eqIntS.l0.eq_2 ..) ?_
    refine Ev.neg (by omega) ?_
    refine (Ev.now _).to ?_
    rw [List.drop_of_length_le (by omega), List.drop_of_length_le (by omega)]
    simp
  | succ d ih =>
    intro i hi
    refine Ev.step (fun _ => laws_eqIntS.l0.eq_2 ..) ?_
    refine Ev.pos (by omega) ?_
    refine Ev.pos (by omega) ?_
    refine Ev.pos (by omega) ?_
    rw [w64s (n := a.length) (by omega) (by omega), rdn, rdn]
    have e1 : a.drop i = gd a i :: a.drop (i + 1) := by rw [gd_lt (by omega)]; exact List.drop_eq_getElem_cons (by omega)
    have e2 : b.drop i = gd b i :: b.drop (i + 1) := by rw [gd_lt (by omega)]; exact List.drop_eq_getElem_cons (by omega)
    refine Ev.ite (fun h => ?_) (fun h => ?_)
    · refine (ih (i + 1) (by omega)).to ?_
      rw [e1, e2, h]
      simp
    · refine (Ev.now _).to ?_
      rw [e1, e2]
      simp [h]
theorem eqIntS_ev (a b : List Int) (hl : a.length ≤ 35184372088832) : Ev (fun k => laws_eqIntS.f k a b) (decide (a = b)) := by
  unfold laws_eqIntS.f
  refine Ev.ite (fun h => ?_) (fun h => ?_)
  · exact eqIntS_loop a b (by omega) hl a.length 0 (by omega)
  · refine (Ev.now _).to ?_
    have : a ≠ b := fun e => h (by rw [e])
    simp [this]
theorem eqIntS_same (a : List Int) (hl : a.length ≤ 35184372088832) : Ev (fun k => laws_eqIntS.f k a a) true := (eqIntS_ev a a hl).to (by simp)

/-! marks -/
theorem markIntS_loop (l : List Int) (a : Int) (ha : 0 ≤ a) (hb : a + l.length ≤ 4611686018427387904) : ∀ (d i : Nat) (x : List Int), i + d = l.length → x.length = l.length → (∀ j, j < i → gd x j = a + j) → Ev (fun k => laws_markIntS.l0 k x (a + i) (i : Int)) (a + l.length, asc l.length a) := by
  intro d
  induction d with
  | zero =>
    intro i x hi hx h
    refine Ev.step (fun _ => laws_markIntS.l0.eq_2 ..) ?_
    refine Ev.neg (by omega) ?_
    have : x = asc l.length a := by
      apply List.ext_getElem (by simp [asc_length, hx])
      intro j h1 h2
      have e := h j (by omega)
      rw [← gd_lt h1, ← gd_lt h2, e, asc_at a (by omega)]
    subst this
    have : i = l.length := by omega
    subst this
    exact Ev.now _
  | succ d ih =>
    intro i x hi hx h
    refine Ev.step (fun _ => laws_markIntS.l0.eq_2 ..) ?_
    refine Ev.pos (by omega) ?_
    refine Ev.pos (by omega) ?_
    rw [w64s (n := l.length) (by omega) (by omega), w64 (by omega) (by omega), Int.toNat_natCast, show a + (i : Int) + 1 = a + ((i + 1 : Nat) : Int) by omega]
    refine ih (i + 1) _ (by omega) (by simpa using hx) ?_
    intro j hj
    by_cases e : j = i
    · subst e
      simp [gd, List.getD, show j < x.length by omega]
    · have := h j (by omega)
      simp only [gd, List.getD] at this ⊢
      rw [List.getElem?_set_ne (by omega)]
      exact this
theorem markIntS_ev (l : List Int) (a : Int) (ha : 0 ≤ a) (hb : a + l.length ≤ 4611686018427387904) : Ev (fun k => laws_markIntS.f k l a) (a + l.length, asc l.length a) := by
  unfold laws_markIntS.f
  have := markIntS_loop l a ha hb l.length 0 l (by omega) rfl (fun j hj => by omega)
  simpa using this
theorem heldIntS_loop (n : Nat) (a : Int) (ha : 0 ≤ a) (hb : a + n ≤ 4611686018427387904) : ∀ (d i : Nat), i + d = n → Ev (fun k => laws_heldIntS.l0 k (asc n a) (a + i) (i : Int)) (a + n) := by
  intro d
  induction d with
  | zero =>
    intro i hi
    refine Ev.step (fun _ => laws_heldIntS.l0.eq_2 ..) ?_
    refine Ev.neg (by rw [asc_length]; omega) ?_
    have : i = n := by omega
    subst this
    exact Ev.now _
  | succ d ih =>
    intro i hi
    refine Ev.step (fun _ => laws_heldIntS.l0.eq_2 ..) ?_
    refine Ev.pos (by rw [asc_length]; omega) ?_
    refine Ev.pos (by omega) ?_
    refine Ev.pos (by rw [rdn, asc_at a (by omega)]) ?_
    rw [w64s (n := n) (by omega) (by omega), w64 (by omega) (by omega), show a + (i : Int) + 1 = a + ((i + 1 : Nat) : Int) by omega]
    exact ih (i + 1) (by omega)
theorem heldIntS_ev (n : Nat) (a : Int) (ha : 0 ≤ a) (hb : a + n ≤ 4611686018427387904) : Ev (fun k => laws_heldIntS.f k (asc n a) a) (a + n) := by
  unfold laws_heldIntS.f
  have := heldIntS_loop n a ha hb n 0 (by omega)
  simpa using this

/-! part -/
/-- What a partition's list owes at a place. -/
def partAt (p : List Int) (i : Nat) : Bool := decide (0 ≤ gd p i) && (decide (gd p i ≤ (i : Int)) && decide (gd p (gd p i).toNat = gd p i))
def partB (n : Int) (p : List Int) : Bool := decide ((p.length : Int) = n) && (List.range' 0 p.length).all (partAt p)
def sizeB (n : Int) : Bool := decide (1 ≤ n ∧ n ≤ 8)
theorem impl_isSize_eq (n : Int) : impl_isSize.f n = some (sizeB n) := by
  unfold impl_isSize.f sizeB
  split
  · congr 1; simp; omega
  · congr 1; simp; omega
theorem spec_l1In_eq (a b c : Int) : spec_l1In.f a b c = some (decide (b ≤ a ∧ a ≤ c)) := by
  unfold spec_l1In.f
  split
  · congr 1; simp; omega
  · congr 1; simp; omega
theorem spec_l6Size_eq (n : Int) : spec_l6Size.f n = some (sizeB n) := by
  unfold spec_l6Size.f
  rw [spec_l1In_eq]
  rfl
/-! kern -/
/-- At each place the first place with the same member. -/
def kern (l : List Int) : List Int := l.map fun v => (l.idxOf v : Int)
theorem kern_length (l : List Int) : (kern l).length = l.length := by simp [kern]
theorem kern_at {l : List Int} {i : Nat} (h : i < l.length) : gd (kern l) i = (l.idxOf (gd l i) : Int) := by simp [kern, gd, List.getD, h]
theorem idx_lt {l : List Int} {i : Nat} (h : i < l.length) : l.idxOf (gd l i) < l.length := by
  rw [List.idxOf_lt_length_iff, gd_lt h]
  exact List.getElem_mem h
theorem idx_at {l : List Int} {i : Nat} (h : i < l.length) : gd l (l.idxOf (gd l i)) = gd l i := by
  rw [gd_lt (idx_lt h)]
  exact List.getElem_idxOf _
theorem idx_ne {l : List Int} {v : Int} {j : Nat} (h : j < l.idxOf v) : gd l j ≠ v := by
  have hj : j < l.length := Nat.lt_of_lt_of_le h List.idxOf_le_length
  rw [gd_lt hj]
  have := List.not_of_lt_findIdx (p := (· == v)) (xs := l) (i := j) h
  simpa using this
theorem idx_le {l : List Int} {i : Nat} (h : i < l.length) : l.idxOf (gd l i) ≤ i := by
  rcases Nat.lt_or_ge i (l.idxOf (gd l i)) with h1 | h1
  · exact absurd rfl (idx_ne h1)
  · exact h1
theorem impl_kernelOf_in (l : List Int) (hl : l.length ≤ 35184372088832) (i : Nat) (hi : i < l.length) (r : List Int) : ∀ (d j : Nat) (x : List Int), j + d = l.idxOf (gd l i) → x.length = l.length → gd x i = (j : Int) →
    Ev (fun k => impl_kernelOf.l0 k l (x.set i (l.idxOf (gd l i) : Int)) (l.length : Int) ((i + 1 : Nat) : Int)) r → Ev (fun k => impl_kernelOf.l1 k l x (i : Int) (l.length : Int) (i : Int)) r := by
  have hlt := idx_lt hi
  intro d
  induction d with
  | zero =>
    intro j x hj hx hxi hr
    refine Ev.step (fun _ => impl_kernelOf.l1.eq_2 ..) ?_
    rw [rdn, hxi]
    refine Ev.pos (by omega) (Ev.pos (by omega) (Ev.pos (by omega) (Ev.pos (by omega) (Ev.pos (by omega) ?_))))
    rw [rdn, rdn, w64s (n := l.length) (by omega) (by omega)]
    have hj' : j = l.idxOf (gd l i) := by omega
    refine Ev.pos (by rw [hj']; exact idx_at hi) ?_
    rwa [set_self (by rw [hxi, hj']) (by omega)] at hr
  | succ d ih =>
    intro j x hj hx hxi hr
    refine Ev.step (fun _ => impl_kernelOf.l1.eq_2 ..) ?_
    rw [rdn, hxi]
    refine Ev.pos (by omega) (Ev.pos (by omega) (Ev.pos (by omega) (Ev.pos (by omega) (Ev.pos (by omega) ?_))))
    rw [rdn, rdn]
    refine Ev.neg (idx_ne (by omega)) ?_
    rw [w64s (n := l.length) (by omega) (by omega), Int.toNat_natCast]
    refine ih (j + 1) _ (by omega) (by simpa using hx) (set_at _ (by omega)) ?_
    rwa [List.set_set]
theorem impl_kernelOf_loop (l : List Int) (hl : l.length ≤ 35184372088832) : ∀ (d i : Nat) (x : List Int), i + d = l.length → x.length = l.length → (∀ j, j < i → gd x j = gd (kern l) j) → Ev (fun k => impl_kernelOf.l0 k l x (l.length : Int) (i : Int)) (kern l) := by
  intro d
  induction d with
  | zero =>
    intro i x hi hx h
    refine Ev.step (fun _ => impl_kernelOf.l0.eq_2 ..) ?_
    refine Ev.neg (by omega) ?_
    have : x = kern l := ext_gd (by rw [kern_length, hx]) (fun j hj => h j (by omega))
    subst this
    exact Ev.now _
  | succ d ih =>
    intro i x hi hx h
    refine Ev.step (fun _ => impl_kernelOf.l0.eq_2 ..) ?_
    refine Ev.pos (by omega) (Ev.pos (by omega) (Ev.pos (by omega) ?_))
    rw [Int.toNat_natCast]
    refine impl_kernelOf_in l hl i (by omega) _ (l.idxOf (gd l i)) 0 _ (by omega) (by simpa using hx) (set_at _ (by omega)) ?_
    rw [List.set_set]
    refine ih (i + 1) _ (by omega) (by simpa using hx) (fun j hj => ?_)
    by_cases e : j = i
    · subst e
      rw [set_at _ (by omega), kern_at (by omega)]
    · rw [set_ne _ (by omega)]
      exact h j (by omega)
theorem impl_kernelOf_ev (l : List Int) (hl : l.length ≤ 35184372088832) : Ev (fun k => impl_kernelOf.f k l) (kern l) := by
  unfold impl_kernelOf.f
  refine Ev.pos (by omega) (Ev.pos (by omega) ?_)
  exact impl_kernelOf_loop l hl l.length 0 _ (by omega) (by simp) (fun j hj => by omega)

/-! kern9 -/
theorem spec_l9Kernel_in (l : List Int) (hl : l.length ≤ 35184372088832) (ho : l.length < 17592186044416) (i : Nat) (hi : i < l.length) (x : List Int) (hx : x.length = i) (r : List Int)
    (hr : Ev (fun k => spec_l9Kernel.l0 k l (x ++ [(l.idxOf (gd l i) : Int)]) ((i + 1 : Nat) : Int)) r) : ∀ (d j : Nat), j + d = l.idxOf (gd l i) → Ev (fun k => spec_l9Kernel.l1 k l x (i : Int) (j : Int)) r := by
  have hlt := idx_lt hi
  intro d
  induction d with
  | zero =>
    intro j hj
    refine Ev.step (fun _ => spec_l9Kernel.l1.eq_2 ..) ?_
    refine Ev.pos (by omega) (Ev.pos (by omega) (Ev.pos (by omega) (Ev.pos (by omega) ?_)))
    rw [rdn, rdn, w64s (n := l.length) (by omega) (by omega)]
    have hj' : j = l.idxOf (gd l i) := by omega
    refine Ev.pos (by rw [hj']; exact idx_at hi) (Ev.pos (by omega) ?_)
    rwa [hj']
  | succ d ih =>
    intro j hj
    refine Ev.step (fun _ => spec_l9Kernel.l1.eq_2 ..) ?_
    refine Ev.pos (by omega) (Ev.pos (by omega) (Ev.pos (by omega) (Ev.pos (by omega) ?_)))
    rw [rdn, rdn]
    refine Ev.neg (idx_ne (by omega)) ?_
    rw [w64s (n := l.length) (by omega) (by omega)]
    exact ih (j + 1) (by omega)
theorem spec_l9Kernel_loop (l : List Int) (hl : l.length ≤ 35184372088832) (ho : l.length < 17592186044416) : ∀ (d i : Nat), i + d = l.length → Ev (fun k => spec_l9Kernel.l0 k l ((kern l).take i) (i : Int)) (kern l) := by
  intro d
  induction d with
  | zero =>
    intro i hi
    refine Ev.step (fun _ => spec_l9Kernel.l0.eq_2 ..) ?_
    refine Ev.neg (by omega) ?_
    rw [List.take_of_length_le (by rw [kern_length]; omega)]
    exact Ev.now _
  | succ d ih =>
    intro i hi
    refine Ev.step (fun _ => spec_l9Kernel.l0.eq_2 ..) ?_
    refine Ev.pos (by omega) ?_
    refine spec_l9Kernel_in l hl ho i (by omega) _ (by simp [kern_length]; omega) _ ?_ (l.idxOf (gd l i)) 0 (by omega)
    rw [← kern_at (by omega), take_snoc _ (by rw [kern_length]; omega)]
    exact ih (i + 1) (by omega)
theorem spec_l9Kernel_ev (l : List Int) (hl : l.length < 17592186044416) : Ev (fun k => spec_l9Kernel.f k l) (kern l) := by
  unfold spec_l9Kernel.f
  exact spec_l9Kernel_loop l (by omega) hl l.length 0 (by omega)

/-! FnExactPartitionOfMap -/
def pom (n : Int) (l : List Int) : List Int × Bool := if sizeB n = true ∧ (l.length : Int) = n then (kern l, true) else ([], false)
theorem pom_len (n : Int) (l : List Int) : (pom n l).1.length ≤ l.length := by unfold pom; split <;> simp [kern_length]
theorem spec_PartitionOfMap_ev (n : Int) (l : List Int) (hl : l.length < 17592186044416) : Ev (fun k => spec_PartitionOfMap.f k n l) (pom n l) := by
  unfold spec_PartitionOfMap.f
  rw [spec_l6Size_eq]
  refine Ev.bind1 (Ev.ite (fun h => Ev.ite (fun h' => ?_) (fun h' => ?_)) (fun h => ?_))
  · refine (spec_l9Kernel_ev l hl).bind ?_
    exact (Ev.now _).to (by simp [pom, h, h'])
  · exact (Ev.now _).to (by simp [pom, h'])
  · exact (Ev.now _).to (by simp [pom, h])
theorem impl_PartitionOfMap_ev (n : Int) (l : List Int) (hl : l.length < 17592186044416) : Ev (fun k => impl_PartitionOfMap.f k n l) (pom n l) := by
  unfold impl_PartitionOfMap.f
  rw [impl_isSize_eq]
  refine Ev.bind1 (Ev.ite (fun h => Ev.ite (fun h' => ?_) (fun h' => ?_)) (fun h => ?_))
  · refine (impl_kernelOf_ev l (by omega)).bind ?_
    exact (Ev.now _).to (by simp [pom, h, h'])
  · exact (Ev.now _).to (by simp [pom, h'])
  · exact (Ev.now _).to (by simp [pom, h])
theorem FnExactPartitionOfMap : laws_FnExactPartitionOfMap.Pure := by
  intro n p _ _ _ _
  refine Ev.rounds ?_
  unfold laws_FnExactPartitionOfMap.f
  refine Ev.ite (fun h => Ev.now _) (fun h => ?_)
  have hl : p.length ≤ 1048576 := by omega
  have hr := pom_len n p
  refine (toIntS_ev p (by omega)).bind ?_
  refine (spec_PartitionOfMap_ev n p (by omega)).bind ?_
  refine (toIntS_ev p (by omega)).bind ?_
  refine (impl_PartitionOfMap_ev n p (by omega)).bind ?_
  refine (eqIntS_same _ (by omega)).bind ?_
  refine Ev.pos rfl ?_
  refine Ev.step (fun _ => laws_FnExactPartitionOfMap.j0.eq_2 ..) (Ev.neg (by simp) ?_)
  refine (toIntS_ev p (by omega)).bind ?_
  refine (eqIntS_same p (by omega)).bind ?_
  refine Ev.pos rfl ?_
  refine (markIntS_ev p 1 (by omega) (by omega)).bind ?_
  refine Ev.neg (by simp; omega) ?_
  refine (eqIntS_same _ (by omega)).bind ?_
  refine Ev.pos rfl ?_
  refine Ev.step (fun _ => laws_FnExactPartitionOfMap.j1.eq_2 ..) (Ev.neg (by simp) ?_)
  refine (markIntS_ev _ 1 (by omega) (by omega)).bind ?_
  refine (heldIntS_ev _ 1 (by omega) (by omega)).bind ?_
  refine Ev.neg (by omega) (Ev.pos rfl ?_)
  refine (toIntS_ev p (by omega)).bind ?_
  refine (impl_PartitionOfMap_ev n p (by omega)).bind ?_
  refine (eqIntS_same _ (by omega)).bind ?_
  refine Ev.pos rfl ?_
  refine Ev.step (fun _ => laws_FnExactPartitionOfMap.j2.eq_2 ..) (Ev.neg (by simp) ?_)
  refine (heldIntS_ev _ 1 (by omega) (by omega)).bind ?_
  exact Ev.neg (by omega) (Ev.pos rfl (Ev.now _))

end Go.Proofs.Ytajabnbonkophaa.Pure
