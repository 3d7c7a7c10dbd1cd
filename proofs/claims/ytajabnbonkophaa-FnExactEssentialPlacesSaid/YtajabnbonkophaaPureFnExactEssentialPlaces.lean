/- The pure law of FnExactEssentialPlaces: on lists of whole numbers, the printed functions answer alike; no condition beside the printed bounds. -/
import Derived.Test.YtajabnbonkophaaQ62
import Derived.Test.YtajabnbonkophaaWSized
namespace Go.Proofs.Ytajabnbonkophaa
open Go.ChangeShapes Go.WideShapes
/-- The printed row names this word without its first part. -/
theorem PrintWords.sized_ints {H : Type} {enc : TypeId × Value → H} {P : Program} {W : World} {base : Nat} {spare : Nat → Bool} {held : Bool} {t e : TypeId} {k : IntKind} {a : Option Addr} {len cap : Nat} {d : DataW H} {ps : List MemPlace} {ts : List TypeId} {ds : List (DataW H)} {j : Nat}
    (hsz : (DataW.weightsEach P ts ds).all (· ≤ reachBytes) = true) (ht : ts[j]? = some t) (hd : ds[j]? = some d) (hu : P.underlying t = some (.slice e)) (he : P.underlying e = some (.int k)) (hc : P.cellsOf e = 1) {B : Nat} (hB : P.bytesOf e = B)
    (h : DataW.Trod enc P W base spare held t (.slice a len cap) d ps) : len * B ≤ 140737488351232 :=
  Go.Proofs.YtajabnbonkophaaW.PrintWords.sized_ints hsz ht hd hu he hc hB h
end Go.Proofs.Ytajabnbonkophaa
namespace Go.Proofs.Ytajabnbonkophaa.Pure
open Go.RowKit Go.Proofs.Ytajabnbonkophaa.Q Go.Proofs.YtajabnbonkophaaW.PrintWords Go.Proofs.YtajabnbonkophaaW.PrintLast
set_option linter.unusedVariables false
set_option linter.unusedSimpArgs false

/-! base -/
theorem Ev.pos {α : Type} {c : Prop} [Decidable c] {f g : Nat → Option α} {r : α} (h : c) (hf : Ev f r) : Ev (fun k => if c then f k else g k) r := by
  simpa only [if_pos h] using hf
theorem Ev.neg {α : Type} {c : Prop} [Decidable c] {f g : Nat → Option α} {r : α} (h : ¬ c) (hg : Ev g r) : Ev (fun k => if c then f k else g k) r := by
  simpa only [if_neg h] using hg
theorem Ev.ite {α : Type} {c : Prop} [Decidable c] {f g : Nat → Option α} {r : α} (h : c → Ev f r) (h' : ¬ c → Ev g r) : Ev (fun k => if c then f k else g k) r := by
  by_cases hc : c
  · exact Ev.pos hc (h hc)
  · exact Ev.neg hc (h' hc)
theorem Ev.bind1 {α β : Type} {x : α} {f : Nat → α → Option β} {r : β} (k : Ev (fun n => f n x) r) : Ev (fun n => (some x).bind (f n)) r := k
theorem _root_.Go.Proofs.YtajabnbonkophaaW.PrintWords.Ev.to {α : Type} {g : Nat → Option α} {r s : α} (h : Ev g r) (e : r = s) : Ev g s := e ▸ h
theorem w64 {x : Int} (h1 : -9223372036854775808 ≤ x) (h2 : x ≤ 9223372036854775807) : wrap64 x = x := by unfold wrap64; omega
theorem w64s {i n : Nat} (h : i < n) (hn : n ≤ 9223372036854775807) : wrap64 ((i : Int) + 1) = ((i + 1 : Nat) : Int) := by unfold wrap64; omega
/-- A list's member at a place. -/
def gd (l : List Int) (i : Nat) : Int := l.getD i 0
theorem rdn (xs : List Int) (i : Nat) : rd xs (i : Int) = gd xs i := by simp [rd, gd]
theorem gd_lt {xs : List Int} {i : Nat} (h : i < xs.length) : gd xs i = xs[i] := by simp [gd, List.getD, h]
theorem gd_eq {xs : List Int} {i : Nat} (h : i < xs.length) : xs[i]? = some (gd xs i) := by simp [gd, List.getD, h]
theorem set_self {x : List Int} {i : Nat} {v : Int} (h : gd x i = v) (hi : i < x.length) : x.set i v = x := by
  subst h
  rw [gd_lt hi, List.set_getElem_self]
theorem set_at {x : List Int} {i : Nat} (v : Int) (hi : i < x.length) : gd (x.set i v) i = v := by simp [gd, List.getD, hi]
theorem set_ne {x : List Int} {i j : Nat} (v : Int) (h : i ≠ j) : gd (x.set i v) j = gd x j := by simp only [gd, List.getD]; rw [List.getElem?_set_ne h]
theorem ext_gd {a b : List Int} (h : a.length = b.length) (e : ∀ i, i < a.length → gd a i = gd b i) : a = b := by
  apply List.ext_getElem h
  intro i h1 h2
  have := e i h1
  rwa [gd_lt h1, gd_lt h2] at this
theorem take_snoc (l : List Int) {i : Nat} (h : i < l.length) : l.take i ++ [gd l i] = l.take (i + 1) := by
  rw [gd_lt h, List.take_append_getElem]
theorem _root_.Go.Proofs.YtajabnbonkophaaW.PrintWords.Ev.and {α β : Type} {g : Nat → Option α} {f : Nat → Option β} {r : α} {s : β} (h : Ev g r) (h' : Ev f s) : ∃ K, ∀ k, K ≤ k → g k = some r ∧ f k = some s := by
  obtain ⟨K, h⟩ := h
  obtain ⟨K', h'⟩ := h'
  exact ⟨max K K', fun k hk => ⟨h k (by omega), h' k (by omega)⟩⟩
/-- Facts that hold from some number of rounds on. -/
def Evs (P : Nat → Prop) : Prop := ∃ K, ∀ k, K ≤ k → P k
theorem Evs.of {α : Type} {g : Nat → Option α} {r : α} (h : Ev g r) : Evs (fun k => g k = some r) := h
theorem Evs.and {P Q : Nat → Prop} (h : Evs P) (h' : Evs Q) : Evs (fun k => P k ∧ Q k) := by
  obtain ⟨K, h⟩ := h
  obtain ⟨K', h'⟩ := h'
  exact ⟨max K K', fun k hk => ⟨h k (by omega), h' k (by omega)⟩⟩
theorem Evs.true {P : Prop} (h : P) : Evs (fun _ => P) := ⟨0, fun _ _ => h⟩
theorem Evs.ex {P : Nat → Prop} (h : Evs P) : ∃ k, P k := by
  obtain ⟨K, h⟩ := h
  exact ⟨K, h K (Nat.le_refl _)⟩
theorem drop_cons {α : Type} (l : List α) (z : α) {i : Nat} (h : i < l.length) : l.drop i = l.getD i z :: l.drop (i + 1) := by
  rw [List.drop_eq_getElem_cons h]
  simp [List.getD, h]
/-- A loop that asks each member. -/
theorem all_loop {α : Type} (l : List α) (z : α) (p : α → Bool) (L : Nat → Int → Option Bool) (hend : Ev (fun k => L k (l.length : Int)) true)
    (hT : ∀ (i : Nat) (r : Bool), i < l.length → p (l.getD i z) = true → Ev (fun k => L k ((i + 1 : Nat) : Int)) r → Ev (fun k => L k (i : Int)) r)
    (hF : ∀ i : Nat, i < l.length → p (l.getD i z) = false → Ev (fun k => L k (i : Int)) false) : ∀ (d i : Nat), i + d = l.length → Ev (fun k => L k (i : Int)) ((l.drop i).all p) := by
  intro d
  induction d with
  | zero =>
    intro i hi
    have : i = l.length := by omega
    subst this
    simpa using hend
  | succ d ih =>
    intro i hi
    rw [drop_cons l z (by omega), List.all_cons]
    cases hp : p (l.getD i z) with
    | true => simpa using hT i _ (by omega) hp (ih (i + 1) (by omega))
    | false => simpa using hF i (by omega) hp
/-- A loop that appends something for each member. -/
theorem map_loop {α β γ : Type} (l : List α) (z : α) (f : α → β) (L : Nat → List β → Int → Option γ) (fin : γ) (hend : Ev (fun k => L k (l.map f) (l.length : Int)) fin)
    (hstep : ∀ (i : Nat) (out : List β), i < l.length → out.length = i → Ev (fun k => L k (out ++ [f (l.getD i z)]) ((i + 1 : Nat) : Int)) fin → Ev (fun k => L k out (i : Int)) fin) :
    ∀ (d i : Nat), i + d = l.length → Ev (fun k => L k ((l.take i).map f) (i : Int)) fin := by
  intro d
  induction d with
  | zero =>
    intro i hi
    have : i = l.length := by omega
    subst this
    simpa using hend
  | succ d ih =>
    intro i hi
    refine hstep i _ (by omega) (by simp; omega) ?_
    have := ih (i + 1) (by omega)
    rw [List.take_succ_eq_append_getElem (by omega), List.map_append] at this
    simpa [List.getD, show i < l.length by omega] using this
/-- A loop that sets something for each member. -/
theorem set_loop {α β γ : Type} (l : List α) (z : α) (f : α → β) (L : Nat → List β → Int → Option γ) (fin : γ) (hend : Ev (fun k => L k (l.map f) (l.length : Int)) fin)
    (hstep : ∀ (i : Nat) (out : List β), i < l.length → out.length = l.length → Ev (fun k => L k (out.set i (f (l.getD i z))) ((i + 1 : Nat) : Int)) fin → Ev (fun k => L k out (i : Int)) fin) :
    ∀ (d i : Nat) (out : List β), i + d = l.length → out.length = l.length → (∀ j, j < i → out[j]? = (l.map f)[j]?) → Ev (fun k => L k out (i : Int)) fin := by
  intro d
  induction d with
  | zero =>
    intro i out hi ho h
    have : i = l.length := by omega
    subst this
    have : out = l.map f := by
      apply List.ext_getElem?
      intro j
      rcases Nat.lt_or_ge j l.length with h1 | h1
      · exact h j h1
      · rw [List.getElem?_eq_none (by omega), List.getElem?_eq_none (by simpa using h1)]
    rw [this]
    exact hend
  | succ d ih =>
    intro i out hi ho h
    refine hstep i out (by omega) ho (ih (i + 1) _ (by omega) (by simpa using ho) (fun j hj => ?_))
    rw [List.getElem?_set]
    by_cases e : i = j
    · subst e
      rw [if_pos rfl, if_pos (by omega)]
      simp [List.getD, show i < l.length by omega]
    · rw [if_neg e]
      exact h j (by omega)

/-! part -/
/-- What a partition's list owes at a place. -/
def partAt (p : List Int) (i : Nat) : Bool := decide (0 ≤ gd p i) && (decide (gd p i ≤ (i : Int)) && decide (gd p (gd p i).toNat = gd p i))
def partB (n : Int) (p : List Int) : Bool := decide ((p.length : Int) = n) && (List.range' 0 p.length).all (partAt p)
def sizeB (n : Int) : Bool := decide (1 ≤ n ∧ n ≤ 8)
theorem impl_isSize_eq (n : Int) : impl_isSize.f n = some (sizeB n) := by
  unfold impl_isSize.f sizeB
  split
  · congr 1; simp; omega
  · congr 1; simp; omega
theorem spec_l1In_eq (a b c : Int) : spec_l1In.f a b c = some (decide (b ≤ a ∧ a ≤ c)) := by
  unfold spec_l1In.f
  split
  · congr 1; simp; omega
  · congr 1; simp; omega
/-! ints -/
/-- The numbers from a on, n of them. -/
def asc (n : Nat) (a : Int) : List Int := (List.range n).map fun (j : Nat) => a + (j : Int)
theorem asc_length (n : Nat) (a : Int) : (asc n a).length = n := by simp [asc]
theorem asc_at {n i : Nat} (a : Int) (h : i < n) : gd (asc n a) i = a + i := by simp [asc, gd, List.getD, h]

theorem toIntS_loop (l : List Int) (hl : l.length ≤ 35184372088832) : ∀ (d i : Nat) (x : List Int), i + d = l.length → x.length = l.length → (∀ j, j < i → gd x j = gd l j) → Ev (fun k => laws_toIntS.l0 k l x (i : Int)) l := by
  intro d
  induction d with
  | zero =>
    intro i x hi hx h
    refine Ev.step (fun _ => laws_toIntS.l0.eq_2 ..) ?_
    refine Ev.neg (by omega) ?_
    have : x = l := by
      apply List.ext_getElem hx
      intro j h1 h2
      have := h j (by omega)
      simpa [gd, List.getD, h1, h2] using this
    subst this
    exact Ev.now _
  | succ d ih =>
    intro i x hi hx h
    refine Ev.step (fun _ => laws_toIntS.l0.eq_2 ..) ?_
    refine Ev.pos (by omega) ?_
    refine Ev.pos (by omega) ?_
    refine Ev.pos (by omega) ?_
    rw [w64s (n := l.length) (by omega) (by omega), rdn, Int.toNat_natCast]
    refine ih (i + 1) _ (by omega) (by simpa using hx) ?_
    intro j hj
    by_cases e : j = i
    · subst e
      simp [gd, List.getD, show j < x.length by omega]
    · have := h j (by omega)
      simp only [gd, List.getD] at this ⊢
      rw [List.getElem?_set_ne (by omega)]
      exact this
theorem toIntS_ev (l : List Int) (hl : l.length ≤ 35184372088832) : Ev (fun k => laws_toIntS.f k l) l := by
  unfold laws_toIntS.f
  refine Ev.pos (by omega) ?_
  refine Ev.pos (by omega) ?_
  exact toIntS_loop l hl l.length 0 _ (by omega) (by simp) (fun j hj => by omega)

theorem eqIntS_loop (a b : List Int) (hb : b.length = a.length) (hl : a.length ≤ 35184372088832) : ∀ (d i : Nat), i + d = a.length → Ev (fun k => laws_eqIntS.l0 k a b (i : Int)) (decide (a.drop i = b.drop i)) := by
  intro d
  induction d with
  | zero =>
    intro i hi
    refine Ev.step (fun _ => laws_eqIntS.l0.eq_2 ..) ?_
    refine Ev.neg (by omega) ?_
    refine (Ev.now _).to ?_
    rw [List.drop_of_length_le (by omega), List.drop_of_length_le (by omega)]
    simp
  | succ d ih =>
    intro i hi
    refine Ev.step (fun _ => laws_eqIntS.l0.eq_2 ..) ?_
    refine Ev.pos (by omega) ?_
    refine Ev.pos (by omega) ?_
    refine Ev.pos (by omega) ?_
    rw [w64s (n := a.length) (by omega) (by omega), rdn, rdn]
    have e1 : a.drop i = gd a i :: a.drop (i + 1) := by rw [gd_lt (by omega)]; exact List.drop_eq_getElem_cons (by omega)
    have e2 : b.drop i = gd b i :: b.drop (i + 1) := by rw [gd_lt (by omega)]; exact List.drop_eq_getElem_cons (by omega)
    refine Ev.ite (fun h => ?_) (fun h => ?_)
    · refine (ih (i + 1) (by omega)).to ?_
      rw [e1, e2, h]
      simp
    · refine (Ev.now _).to ?_
      rw [e1, e2]
      simp [h]
theorem eqIntS_ev (a b : List Int) (hl : a.length ≤ 35184372088832) : Ev (fun k => laws_eqIntS.f k a b) (decide (a = b)) := by
  unfold laws_eqIntS.f
  refine Ev.ite (fun h => ?_) (fun h => ?_)
  · exact eqIntS_loop a b (by omega) hl a.length 0 (by omega)
  · refine (Ev.now _).to ?_
    have : a ≠ b := fun e => h (by rw [e])
    simp [this]
theorem eqIntS_same (a : List Int) (hl : a.length ≤ 35184372088832) : Ev (fun k => laws_eqIntS.f k a a) true := (eqIntS_ev a a hl).to (by simp)

/-! alg -/
/-- An operation's record, as the printed functions have it. -/
abbrev IOp := S43
abbrev LOp := S40
theorem rdO_n (xs : List IOp) (i : Nat) : rd_T43 xs (i : Int) = xs.getD i z43 := by simp [rd_T43]
theorem rdL_n (xs : List LOp) (i : Nat) : rd_T40 xs (i : Int) = xs.getD i z40 := by simp [rd_T40]
def inB (n x : Int) : Bool := decide (0 ≤ x ∧ x < n)
def powI (n k : Int) : Int := n ^ k.toNat
def opB (n a : Int) (l : List Int) : Bool := decide (0 ≤ a ∧ a ≤ 3) && (decide ((l.length : Int) = powI n a) && l.all (inB n))
def algB (n : Int) (ops : List IOp) : Bool := sizeB n && (decide (ops.length ≤ 4) && ops.all fun x => opB n x.f0 x.f1)
theorem impl_power_ev (n k : Int) (hn : 1 ≤ n ∧ n ≤ 8) (hk : 0 ≤ k ∧ k ≤ 3) : Ev (fun f => impl_power.f f n k) (powI n k) := by
  have h1 : n = 1 ∨ n = 2 ∨ n = 3 ∨ n = 4 ∨ n = 5 ∨ n = 6 ∨ n = 7 ∨ n = 8 := by omega
  have h2 : k = 0 ∨ k = 1 ∨ k = 2 ∨ k = 3 := by omega
  refine Ev.of (fun f => impl_power.mono n k f) (k := 5) ?_
  rcases h1 with rfl | rfl | rfl | rfl | rfl | rfl | rfl | rfl <;> rcases h2 with rfl | rfl | rfl | rfl <;> decide +kernel
theorem spec_l2Pow_ev (n k : Int) (hn : 1 ≤ n ∧ n ≤ 8) (hk : 0 ≤ k ∧ k ≤ 3) : Ev (fun f => spec_l2Pow.f f n k) (powI n k) := by
  have h1 : n = 1 ∨ n = 2 ∨ n = 3 ∨ n = 4 ∨ n = 5 ∨ n = 6 ∨ n = 7 ∨ n = 8 := by omega
  have h2 : k = 0 ∨ k = 1 ∨ k = 2 ∨ k = 3 := by omega
  refine Ev.of (fun f => spec_l2Pow.mono n k f) (k := 5) ?_
  rcases h1 with rfl | rfl | rfl | rfl | rfl | rfl | rfl | rfl <;> rcases h2 with rfl | rfl | rfl | rfl <;> decide +kernel
theorem impl_inSize_ev (l : List Int) (n : Int) (hl : l.length ≤ 35184372088832) : Ev (fun k => impl_inSize.f k l n) (l.all (inB n)) := by
  unfold impl_inSize.f
  refine all_loop l 0 (inB n) (fun k i => impl_inSize.l0 k n l (l.length : Int) i) ?_ ?_ ?_ l.length 0 (by omega)
  · exact Ev.step (fun _ => impl_inSize.l0.eq_2 ..) (Ev.neg (by omega) (Ev.now _))
  · intro i r hi hp h
    have hp' := of_decide_eq_true hp
    refine Ev.step (fun _ => impl_inSize.l0.eq_2 ..) ?_
    rw [w64s (n := l.length) (by omega) (by omega), rdn]
    change 0 ≤ gd l i ∧ gd l i < n at hp'
    exact Ev.pos (by omega) (Ev.pos (by omega) (Ev.pos (by omega) (Ev.neg (by omega) (Ev.neg (by omega) h))))
  · intro i hi hp
    have hp' := of_decide_eq_false hp
    change ¬ (0 ≤ gd l i ∧ gd l i < n) at hp'
    refine Ev.step (fun _ => impl_inSize.l0.eq_2 ..) ?_
    rw [rdn]
    refine Ev.pos (by omega) (Ev.pos (by omega) (Ev.pos (by omega) (Ev.ite (fun _ => Ev.now _) (fun h1 => Ev.pos (by omega) (Ev.now _)))))
theorem impl_isOp_ev (n a : Int) (l : List Int) (hn : sizeB n = true) (hl : l.length ≤ 35184372088832) : Ev (fun k => impl_isOp.f k a l n) (opB n a l) := by
  have hn' := of_decide_eq_true hn
  unfold impl_isOp.f opB
  refine Ev.ite (fun h1 => Ev.ite (fun h2 => ?_) (fun h2 => (Ev.now _).to ?_)) (fun h1 => (Ev.now _).to ?_)
  · refine (impl_power_ev n a hn' ⟨by omega, by omega⟩).bind (Ev.ite (fun h3 => ?_) (fun h3 => (Ev.now _).to ?_))
    · refine (impl_inSize_ev l n hl).bind ((Ev.now _).to ?_)
      rw [decide_eq_true (show 0 ≤ a ∧ a ≤ 3 by omega), decide_eq_true h3]
      simp
    · rw [decide_eq_false h3]
      simp
  · rw [decide_eq_false (show ¬ (0 ≤ a ∧ a ≤ 3) by omega)]
    simp
  · rw [decide_eq_false (show ¬ (0 ≤ a ∧ a ≤ 3) by omega)]
    simp
theorem spec_l2Op_ev (n a : Int) (l : List Int) (hn : sizeB n = true) (hl : l.length ≤ 35184372088832) : Ev (fun k => spec_l2Op.f k n a l) (opB n a l) := by
  have hn' := of_decide_eq_true hn
  have loop : Ev (fun k => spec_l2Op.l0 k n 0 a l) (l.all (inB n)) := by
    refine all_loop l 0 (inB n) (fun k i => spec_l2Op.l0 k n i a l) ?_ ?_ ?_ l.length 0 (by omega)
    · exact Ev.step (fun _ => spec_l2Op.l0.eq_2 ..) (Ev.neg (by omega) (Ev.now _))
    · intro i r hi hp h
      have hp' := of_decide_eq_true hp
      change 0 ≤ gd l i ∧ gd l i < n at hp'
      refine Ev.step (fun _ => spec_l2Op.l0.eq_2 ..) ?_
      rw [w64s (n := l.length) (by omega) (by omega), rdn, spec_l1In_eq, w64 (by omega) (by omega)]
      refine Ev.pos (by omega) (Ev.pos (by omega) (Ev.bind1 (Ev.pos (decide_eq_true (by omega)) h)))
    · intro i hi hp
      have hp' := of_decide_eq_false hp
      change ¬ (0 ≤ gd l i ∧ gd l i < n) at hp'
      refine Ev.step (fun _ => spec_l2Op.l0.eq_2 ..) ?_
      rw [rdn, spec_l1In_eq, w64 (by omega) (by omega)]
      refine Ev.pos (by omega) (Ev.pos (by omega) (Ev.bind1 (Ev.neg (by rw [decide_eq_true_eq]; omega) (Ev.now _))))
  unfold spec_l2Op.f opB
  rw [spec_l1In_eq]
  refine Ev.bind1 (Ev.ite (fun h1 => ?_) (fun h1 => ?_))
  · have h1' := of_decide_eq_true h1
    refine (spec_l2Pow_ev n a hn' h1').bind ?_
    refine Ev.step (fun _ => spec_l2Op.j0.eq_2 ..) (Ev.ite (fun h2 => (Ev.now _).to ?_) (fun h2 => loop.to ?_))
    · have : ¬ ((l.length : Int) = powI n a) := by simpa using h2
      simp [this]
    · have : (l.length : Int) = powI n a := by simpa using h2
      rw [decide_eq_true h1', decide_eq_true this]
      simp
  · refine Ev.step (fun _ => spec_l2Op.j0.eq_2 ..) (Ev.pos rfl ((Ev.now _).to ?_))
    simp at h1 ⊢
    omega
/-- What came in: no operation's table is too long. -/
def fitO (ops : List IOp) : Prop := ops.length ≤ 8796093022208 ∧ ∀ x ∈ ops, x.f1.length ≤ 1048576
theorem fitO_at {ops : List IOp} (h : fitO ops) {i : Nat} (hi : i < ops.length) : (ops.getD i z43).f1.length ≤ 1048576 := by
  refine h.2 _ ?_
  rw [List.getD_eq_getElem?_getD, List.getElem?_eq_getElem hi]
  exact List.getElem_mem hi
/-! digits -/
/-- The arguments of an index, the first one first. -/
def argsM (n : Int) : Nat → Int → List Int
  | 0, _ => []
  | k + 1, i => argsM n k (i / n) ++ [i % n]
/-- The index of arguments. -/
def valM (n : Int) (l : List Int) : Int := l.foldl (fun at_ x => at_ * n + x) 0
theorem argsM_length (n : Int) : ∀ (k : Nat) (i : Int), (argsM n k i).length = k := by
  intro k
  induction k with
  | zero => intro i; rfl
  | succ k ih => intro i; simp [argsM, ih]
theorem argsM_in {n : Int} (hn : 1 ≤ n) : ∀ (k : Nat) (i : Int), 0 ≤ i → ∀ x ∈ argsM n k i, 0 ≤ x ∧ x < n := by
  intro k
  induction k with
  | zero => intro i _ x hx; simp [argsM] at hx
  | succ k ih =>
    intro i hi x hx
    simp only [argsM, List.mem_append, List.mem_singleton] at hx
    rcases hx with hx | rfl
    · exact ih _ (Int.ediv_nonneg hi (by omega)) x hx
    · exact ⟨Int.emod_nonneg _ (by omega), Int.emod_lt_of_pos _ (by omega)⟩
theorem valM_snoc (n : Int) (l : List Int) (x : Int) : valM n (l ++ [x]) = valM n l * n + x := by simp [valM]
theorem rev_ind {α : Type} {P : List α → Prop} (h0 : P []) (h1 : ∀ l x, P l → P (l ++ [x])) (l : List α) : P l := by
  have key : ∀ (n : Nat) (l : List α), l.length = n → P l := by
    intro n
    induction n with
    | zero =>
      intro l hl
      have : l = [] := List.eq_nil_of_length_eq_zero hl
      subst this
      exact h0
    | succ n ih =>
      intro l hl
      have hne : l ≠ [] := fun h => by subst h; simp at hl
      rw [← List.dropLast_concat_getLast hne]
      exact h1 _ _ (ih _ (by simp [hl]))
  exact key l.length l rfl
theorem valM_in {n : Int} (hn : 1 ≤ n) (l : List Int) : (∀ x ∈ l, 0 ≤ x ∧ x < n) → 0 ≤ valM n l ∧ valM n l < n ^ l.length := by
  induction l using rev_ind with
  | h0 => intro _; simp [valM]
  | h1 l x ih =>
    intro h
    obtain ⟨h1, h2⟩ := ih (fun y hy => h y (by simp [hy]))
    obtain ⟨h3, h4⟩ := h x (by simp)
    rw [valM_snoc, List.length_append, List.length_singleton, Int.pow_succ]
    have h5 : 0 ≤ valM n l * n := Int.mul_nonneg h1 (by omega)
    have h6 : (valM n l + 1) * n ≤ n ^ l.length * n := Int.mul_le_mul_of_nonneg_right (by omega) (by omega)
    rw [Int.add_mul] at h6
    omega
theorem valM_args {n : Int} (hn : 1 ≤ n) : ∀ (k : Nat) (i : Int), 0 ≤ i → i < n ^ k → valM n (argsM n k i) = i := by
  intro k
  induction k with
  | zero => intro i h0 h1; simp at h1; simp [valM, argsM]; omega
  | succ k ih =>
    intro i h0 h1
    rw [argsM, valM_snoc, ih (i / n) (Int.ediv_nonneg h0 (by omega)) (Int.ediv_lt_of_lt_mul (by omega) (by rw [Int.pow_succ] at h1; exact h1))]
    rw [Int.mul_comm]
    exact Int.mul_ediv_add_emod i n
theorem argsM_val {n : Int} (hn : 1 ≤ n) (l : List Int) : (∀ x ∈ l, 0 ≤ x ∧ x < n) → argsM n l.length (valM n l) = l := by
  induction l using rev_ind with
  | h0 => intro _; rfl
  | h1 l x ih =>
    intro h
    obtain ⟨h3, h4⟩ := h x (by simp)
    rw [valM_snoc, List.length_append, List.length_singleton, argsM, Int.add_comm (valM n l * n) x, Int.add_mul_ediv_right _ _ (by omega), Int.ediv_eq_zero_of_lt h3 h4, Int.zero_add, ih (fun y hy => h y (by simp [hy])), Int.add_mul_emod_self_right, Int.emod_eq_of_lt h3 h4]
theorem div_in {i n : Int} (h0 : 0 ≤ i) (hi : i ≤ 1152921504606846976) (hn : 1 ≤ n) : wrap64 (Int.tdiv i n) = i / n ∧ 0 ≤ i / n ∧ i / n ≤ i := by
  have h1 : Int.tdiv i n = i / n := Int.tdiv_eq_ediv_of_nonneg h0
  have h2 : 0 ≤ i / n := Int.ediv_nonneg h0 (by omega)
  have h3 : i / n ≤ i := Int.ediv_le_self n h0
  exact ⟨by rw [h1, w64 (by omega) (by omega)], h2, h3⟩
/-- An index grows by one argument without a wrap. -/
theorem grow_in {n a x : Int} (hn : 1 ≤ n ∧ n ≤ 8) (ha : 0 ≤ a ∧ a ≤ 1048576) (hx : 0 ≤ x ∧ x < n) : wrap64 (wrap64 (a * n) + x) = a * n + x := by
  have h1 : 0 ≤ a * n := Int.mul_nonneg ha.1 (by omega)
  have h2 : a * n ≤ 1048576 * 8 := Int.mul_le_mul ha.2 hn.2 (by omega) (by omega)
  rw [w64 (x := a * n) (by omega) (by omega), w64 (by omega) (by omega)]
theorem pow_le3 {n : Int} (hn : 1 ≤ n ∧ n ≤ 8) {k : Nat} (hk : k ≤ 3) : n ^ k ≤ 512 := by
  have h1 : n = 1 ∨ n = 2 ∨ n = 3 ∨ n = 4 ∨ n = 5 ∨ n = 6 ∨ n = 7 ∨ n = 8 := by omega
  have h2 : k = 0 ∨ k = 1 ∨ k = 2 ∨ k = 3 := by omega
  rcases h1 with rfl | rfl | rfl | rfl | rfl | rfl | rfl | rfl <;> rcases h2 with rfl | rfl | rfl | rfl <;> decide
theorem algB_size {n : Int} {ops : List IOp} (h : algB n ops = true) : 1 ≤ n ∧ n ≤ 8 := by
  simp [algB] at h
  exact of_decide_eq_true h.1
theorem algB_few {n : Int} {ops : List IOp} (h : algB n ops = true) : ops.length ≤ 4 := by
  simp [algB] at h
  exact h.2.1
theorem algB_op {n : Int} {ops : List IOp} (h : algB n ops = true) {i : Nat} (hi : i < ops.length) : opB n (ops.getD i z43).f0 (ops.getD i z43).f1 = true := by
  simp [algB] at h
  have := h.2.2 (ops.getD i z43) (by rw [List.getD_eq_getElem?_getD, List.getElem?_eq_getElem hi]; exact List.getElem_mem hi)
  exact this
/-- What a valid operation owes. -/
theorem opB_of {n a : Int} {l : List Int} (h : opB n a l = true) : ∃ k : Nat, a = k ∧ k ≤ 3 ∧ (l.length : Int) = n ^ k ∧ ∀ x ∈ l, 0 ≤ x ∧ x < n := by
  simp only [opB, Bool.and_eq_true, decide_eq_true_eq, List.all_eq_true, inB] at h
  refine ⟨a.toNat, by omega, by omega, h.2.1, h.2.2⟩

/-! laws -/
/-- The operations as the law hands them on. -/
def conv (l : List LOp) : List IOp := l.map fun x => ⟨x.f0, x.f1⟩
theorem conv_length (l : List LOp) : (conv l).length = l.length := by simp [conv]
theorem laws_szIntS_eq (l : List Int) (t : Int) (hl : l.length ≤ maxLen) (ht : 0 ≤ t ∧ t ≤ 1048576) : ∃ r, laws_szIntS.f l t = some r ∧ -1 ≤ r ∧ (0 ≤ r → r = t - l.length) ∧ (r < 0 → t < (l.length : Int)) := by
  unfold maxLen at hl
  unfold laws_szIntS.f
  rw [w64 (by omega) (by omega)]
  split
  · exact ⟨-1, rfl, by omega, by omega, by omega⟩
  · exact ⟨_, rfl, by omega, by omega, by omega⟩
theorem laws_szOp_eq (a : Int) (l : List Int) (t : Int) (hl : l.length ≤ maxLen) (ht : 0 ≤ t ∧ t ≤ 1048576) : ∃ r, laws_szOp.f a l t = some r ∧ -1 ≤ r ∧ (0 ≤ r → r = t - l.length) ∧ (r < 0 → t < (l.length : Int)) := by
  obtain ⟨r, hr, h1, h2, h3⟩ := laws_szIntS_eq l t hl ht
  unfold laws_szOp.f
  rw [hr]
  simp only [Option.bind_some]
  split
  · exact ⟨-1, rfl, by omega, by omega, fun _ => h3 (by omega)⟩
  · exact ⟨r, rfl, h1, h2, h3⟩
theorem laws_toOp_ev (a : Int) (l : List Int) (hl : l.length ≤ 35184372088832) : Ev (fun k => laws_toOp.f k a l) (a, l) := by
  unfold laws_toOp.f
  exact (toIntS_ev l hl).bind (Ev.now _)
theorem laws_eqOp_same (a : Int) (l : List Int) (hl : l.length ≤ 35184372088832) : Ev (fun k => laws_eqOp.f k a l a l) true := by
  unfold laws_eqOp.f
  exact Ev.pos rfl ((eqIntS_same l hl).bind (Ev.pos rfl (Ev.now _)))
theorem conv_fit (l : List LOp) (hl : l.length ≤ 8796093022208) (hg : ∀ x ∈ l, x.f1.length ≤ 1048576) : fitO (conv l) := by
  refine ⟨by rw [conv_length]; exact hl, fun x hx => ?_⟩
  obtain ⟨y, hy, rfl⟩ := List.mem_map.1 hx
  exact hg y hy

/-! tables -/
/-- A loop that looks for a member. -/
theorem find_loop {α γ : Type} (l : List α) (z : α) (p : α → Bool) (L : Nat → Int → Option γ) (y n : γ) (hend : Ev (fun k => L k (l.length : Int)) n)
    (hT : ∀ (i : Nat), i < l.length → p (l.getD i z) = true → Ev (fun k => L k (i : Int)) y)
    (hF : ∀ (i : Nat) (r : γ), i < l.length → p (l.getD i z) = false → Ev (fun k => L k ((i + 1 : Nat) : Int)) r → Ev (fun k => L k (i : Int)) r) : ∀ (d i : Nat), i + d = l.length → Ev (fun k => L k (i : Int)) (if (l.drop i).any p = true then y else n) := by
  intro d
  induction d with
  | zero =>
    intro i hi
    have : i = l.length := by omega
    subst this
    simpa using hend
  | succ d ih =>
    intro i hi
    rw [drop_cons l z (by omega), List.any_cons]
    cases hp : p (l.getD i z) with
    | true => simpa using hT i (by omega) hp
    | false => simpa using hF i _ (by omega) hp (ih (i + 1) (by omega))
theorem range_at {N i : Nat} (h : i < N) : (List.range N).getD i 0 = i := by simp [List.getD, h]
theorem powI_nat (n : Int) (k : Nat) : powI n (k : Int) = n ^ k := by simp [powI]
/-- A power as a count. -/
theorem pow_count {n : Int} (hn : 1 ≤ n ∧ n ≤ 8) {k : Nat} (hk : k ≤ 3) : ∃ N : Nat, n ^ k = N ∧ 1 ≤ N ∧ N ≤ 512 := by
  have h1 := pow_le3 hn hk
  have h2 : 0 < n ^ k := Int.pow_pos (by omega)
  exact ⟨(n ^ k).toNat, by omega, by omega, by omega⟩
theorem spec_l12Size_eq (n : Int) : spec_l12Size.f n = some (sizeB n) := by
  unfold spec_l12Size.f
  rw [spec_l1In_eq]
  rfl

/-! marks -/
theorem markIntS_loop (l : List Int) (a : Int) (ha : 0 ≤ a) (hb : a + l.length ≤ 4611686018427387904) : ∀ (d i : Nat) (x : List Int), i + d = l.length → x.length = l.length → (∀ j, j < i → gd x j = a + j) → Ev (fun k => laws_markIntS.l0 k x (a + i) (i : Int)) (a + l.length, asc l.length a) := by
  intro d
  induction d with
  | zero =>
    intro i x hi hx h
    refine Ev.step (fun _ => laws_markIntS.l0.eq_2 ..) ?_
    refine Ev.neg (by omega) ?_
    have : x = asc l.length a := by
      apply List.ext_getElem (by simp [asc_length, hx])
      intro j h1 h2
      have e := h j (by omega)
      rw [← gd_lt h1, ← gd_lt h2, e, asc_at a (by omega)]
    subst this
    have : i = l.length := by omega
    subst this
    exact Ev.now _
  | succ d ih =>
    intro i x hi hx h
    refine Ev.step (fun _ => laws_markIntS.l0.eq_2 ..) ?_
    refine Ev.pos (by omega) ?_
    refine Ev.pos (by omega) ?_
    rw [w64s (n := l.length) (by omega) (by omega), w64 (by omega) (by omega), Int.toNat_natCast, show a + (i : Int) + 1 = a + ((i + 1 : Nat) : Int) by omega]
    refine ih (i + 1) _ (by omega) (by simpa using hx) ?_
    intro j hj
    by_cases e : j = i
    · subst e
      simp [gd, List.getD, show j < x.length by omega]
    · have := h j (by omega)
      simp only [gd, List.getD] at this ⊢
      rw [List.getElem?_set_ne (by omega)]
      exact this
theorem markIntS_ev (l : List Int) (a : Int) (ha : 0 ≤ a) (hb : a + l.length ≤ 4611686018427387904) : Ev (fun k => laws_markIntS.f k l a) (a + l.length, asc l.length a) := by
  unfold laws_markIntS.f
  have := markIntS_loop l a ha hb l.length 0 l (by omega) rfl (fun j hj => by omega)
  simpa using this
theorem heldIntS_loop (n : Nat) (a : Int) (ha : 0 ≤ a) (hb : a + n ≤ 4611686018427387904) : ∀ (d i : Nat), i + d = n → Ev (fun k => laws_heldIntS.l0 k (asc n a) (a + i) (i : Int)) (a + n) := by
  intro d
  induction d with
  | zero =>
    intro i hi
    refine Ev.step (fun _ => laws_heldIntS.l0.eq_2 ..) ?_
    refine Ev.neg (by rw [asc_length]; omega) ?_
    have : i = n := by omega
    subst this
    exact Ev.now _
  | succ d ih =>
    intro i hi
    refine Ev.step (fun _ => laws_heldIntS.l0.eq_2 ..) ?_
    refine Ev.pos (by rw [asc_length]; omega) ?_
    refine Ev.pos (by omega) ?_
    refine Ev.pos (by rw [rdn, asc_at a (by omega)]) ?_
    rw [w64s (n := n) (by omega) (by omega), w64 (by omega) (by omega), show a + (i : Int) + 1 = a + ((i + 1 : Nat) : Int) by omega]
    exact ih (i + 1) (by omega)
theorem heldIntS_ev (n : Nat) (a : Int) (ha : 0 ≤ a) (hb : a + n ≤ 4611686018427387904) : Ev (fun k => laws_heldIntS.f k (asc n a) a) (a + n) := by
  unfold laws_heldIntS.f
  have := heldIntS_loop n a ha hb n 0 (by omega)
  simpa using this

/-! FnExactEssentialPlaces -/
def baseI (n step i : Int) : Int := i - i / step % n * step
theorem baseI_in {n step i : Int} (hn : 1 ≤ n) (hs : 1 ≤ step) (hi : 0 ≤ i ∧ i ≤ 1048576) : wrap64 (i - wrap64 (Int.tmod (wrap64 (Int.tdiv i step)) n * step)) = baseI n step i ∧ 0 ≤ baseI n step i ∧ baseI n step i ≤ i := by
  obtain ⟨e1, e2, e3⟩ := div_in (i := i) (n := step) hi.1 (by omega) hs
  have h1 : 0 ≤ i / step % n := Int.emod_nonneg _ (by omega)
  have h2 : i / step % n ≤ i / step := by
    have q1 := Int.mul_ediv_add_emod (i / step) n
    have q2 : 0 ≤ n * (i / step / n) := Int.mul_nonneg (by omega) (Int.ediv_nonneg e2 (by omega))
    omega
  have h3 : i / step * step ≤ i := Int.ediv_mul_le i (by omega)
  have h4 : i / step % n * step ≤ i / step * step := Int.mul_le_mul_of_nonneg_right h2 (by omega)
  have h5 : 0 ≤ i / step % n * step := Int.mul_nonneg h1 (by omega)
  rw [e1, Int.tmod_eq_emod_of_nonneg e2, w64 (x := i / step % n * step) (by omega) (by omega), w64 (by omega) (by omega)]
  unfold baseI
  omega
def essAt (n : Int) (l : List Int) (step : Int) (i : Nat) : Bool := decide (gd l i ≠ gd l (baseI n step i).toNat)
def essB (n : Int) (k : Nat) (l : List Int) (p : Nat) : Bool := (List.range l.length).any (essAt n l (n ^ (k - 1 - p)))
def essL (n : Int) (k : Nat) (l : List Int) (ps : List Nat) : List Int := (ps.filter (essB n k l)).map fun p : Nat => (p : Int)
def essM (n a : Int) (l : List Int) : List Int × Bool := if sizeB n = true ∧ opB n a l = true then (essL n a.toNat l (List.range a.toNat), true) else ([], false)
theorem essL_length (n : Int) (k : Nat) (l : List Int) (ps : List Nat) : (essL n k l ps).length ≤ ps.length := by
  unfold essL
  rw [List.length_map]
  exact List.length_filter_le _ _
theorem rdi (l : List Int) {i : Int} (h : 0 ≤ i) : rd l i = gd l i.toNat := by
  obtain ⟨j, rfl⟩ : ∃ j : Nat, i = (j : Int) := ⟨i.toNat, by omega⟩
  rw [rdn, Int.toNat_natCast]
theorem essL_cons (n : Int) (k : Nat) (l : List Int) (p : Nat) (ps : List Nat) : essL n k l (p :: ps) = if essB n k l p = true then (p : Int) :: essL n k l ps else essL n k l ps := by
  unfold essL
  rw [List.filter_cons]
  split <;> simp
theorem impl_EssentialPlaces_ev (n a : Int) (l : List Int) (hl : l.length ≤ 1048576) : Ev (fun k => impl_EssentialPlaces.f k n a l) (essM n a l) := by
  unfold impl_EssentialPlaces.f essM
  rw [impl_isSize_eq]
  refine Ev.bind1 (Ev.ite (fun hs => ?_) (fun hs => ?_))
  · refine (impl_isOp_ev n a l hs (by omega)).bind (Ev.step (fun _ => impl_EssentialPlaces.j0.eq_2 ..) (Ev.ite (fun ho => (Ev.now _).to ?_) (fun ho => ?_)))
    · rw [if_neg]
      intro h
      simp [h.2] at ho
    · have ho' : opB n a l = true := by simpa using ho
      rw [if_pos ⟨hs, ho'⟩]
      have hn : 1 ≤ n ∧ n ≤ 8 := of_decide_eq_true hs
      obtain ⟨k, rfl, hk, hl1, hl2⟩ := opB_of ho'
      rw [Int.toNat_natCast]
      have key : ∀ (d i : Nat) (out : List Int), i + d = k → out.length ≤ i → Ev (fun f => impl_EssentialPlaces.l0 f n out (i : Int) (k : Int) l) (out ++ essL n k l ((List.range k).drop i), true) := by
        intro d
        induction d with
        | zero =>
          intro i out hi ho
          refine Ev.step (fun _ => impl_EssentialPlaces.l0.eq_2 ..) (Ev.neg (by omega) ((Ev.now _).to ?_))
          rw [List.drop_of_length_le (by simp; omega)]
          simp [essL]
        | succ d ih =>
          intro i out hi ho
          have hstep : 1 ≤ n ^ (k - 1 - i) := by have : 0 < n ^ (k - 1 - i) := Int.pow_pos (by omega); omega
          have h512 := pow_le3 hn (k := k - 1 - i) (by omega)
          refine Ev.step (fun _ => impl_EssentialPlaces.l0.eq_2 ..) (Ev.pos (by omega) ?_)
          rw [w64 (x := (k : Int) - 1) (by omega) (by omega), w64 (by omega) (by omega), show (k : Int) - 1 - i = ((k - 1 - i : Nat) : Int) by omega]
          refine (impl_power_ev n _ hn ⟨by omega, by omega⟩).bind ?_
          rw [powI_nat]
          have fl := find_loop (List.range l.length) 0 (essAt n l (n ^ (k - 1 - i))) (fun f x => impl_EssentialPlaces.l1 f n out (i : Int) (n ^ (k - 1 - i)) l (l.length : Int) x (k : Int) l) (out ++ [(i : Int)] ++ essL n k l ((List.range k).drop (i + 1)), true) (out ++ essL n k l ((List.range k).drop (i + 1)), true) ?_ ?_ ?_ l.length 0 (by simp)
          · refine fl.to ?_
            rw [drop_cons (List.range k) 0 (i := i) (by simp; omega), range_at (by omega), essL_cons, List.drop_zero]
            change (if essB n k l i = true then _ else _) = _
            split <;> simp_all
          · rw [List.length_range]
            refine Ev.step (fun _ => impl_EssentialPlaces.l1.eq_2 ..) (Ev.neg (by omega) ?_)
            rw [w64s (n := k) (by omega) (by omega)]
            exact ih (i + 1) out (by omega) (by omega)
          · intro j hj hp
            rw [List.length_range] at hj
            rw [range_at hj] at hp
            obtain ⟨b1, b2, b3⟩ := baseI_in (n := n) (step := n ^ (k - 1 - i)) (i := (j : Int)) hn.1 hstep ⟨by omega, by omega⟩
            have hp' := of_decide_eq_true hp
            refine Ev.step (fun _ => impl_EssentialPlaces.l1.eq_2 ..) ?_
            rw [b1, rdn, rdi l b2, w64s (i := i) (n := k) (by omega) (by omega)]
            exact Ev.pos (by omega) (Ev.pos (by omega) (Ev.pos (by omega) (Ev.neg (by omega) (Ev.neg (by omega) (Ev.pos b2 (Ev.pos (by omega) (Ev.neg hp' (Ev.pos (by omega) (ih (i + 1) _ (by omega) (by simp; omega))))))))))
          · intro j r hj hp h
            rw [List.length_range] at hj
            rw [range_at hj] at hp
            obtain ⟨b1, b2, b3⟩ := baseI_in (n := n) (step := n ^ (k - 1 - i)) (i := (j : Int)) hn.1 hstep ⟨by omega, by omega⟩
            have hp' := of_decide_eq_false hp
            refine Ev.step (fun _ => impl_EssentialPlaces.l1.eq_2 ..) ?_
            rw [b1, rdn, rdi l b2, w64s (i := j) (n := l.length) (by omega) (by omega)]
            exact Ev.pos (by omega) (Ev.pos (by omega) (Ev.pos (by omega) (Ev.neg (by omega) (Ev.neg (by omega) (Ev.pos b2 (Ev.pos (by omega) (Ev.pos (Classical.not_not.1 hp') h)))))))
      exact key k 0 [] (by omega) (by simp)
  · refine Ev.step (fun _ => impl_EssentialPlaces.j0.eq_2 ..) (Ev.pos rfl ((Ev.now _).to ?_))
    rw [if_neg (fun h => hs h.1)]
theorem spec_EssentialPlaces_ev (n a : Int) (l : List Int) (hl : l.length ≤ 1048576) : Ev (fun k => spec_EssentialPlaces.f k n a l) (essM n a l) := by
  unfold spec_EssentialPlaces.f essM
  refine Ev.bind1 ?_
  rw [spec_l12Size_eq]
  refine Ev.bind1 (Ev.ite (fun hs => ?_) (fun hs => ?_))
  · refine (spec_l2Op_ev n a l hs (by omega)).bind (Ev.step (fun _ => spec_EssentialPlaces.j0.eq_2 ..) (Ev.ite (fun ho => (Ev.now _).to ?_) (fun ho => ?_)))
    · rw [if_neg]
      intro h
      simp [h.2] at ho
    · have ho' : opB n a l = true := by simpa using ho
      rw [if_pos ⟨hs, ho'⟩]
      have hn : 1 ≤ n ∧ n ≤ 8 := of_decide_eq_true hs
      obtain ⟨k, rfl, hk, hl1, hl2⟩ := opB_of ho'
      rw [Int.toNat_natCast]
      have key : ∀ (d i : Nat) (out : List Int), i + d = k → out.length ≤ i → Ev (fun f => spec_EssentialPlaces.l0 f n out (i : Int) (k : Int) l) (out ++ essL n k l ((List.range k).drop i), true) := by
        intro d
        induction d with
        | zero =>
          intro i out hi ho
          refine Ev.step (fun _ => spec_EssentialPlaces.l0.eq_2 ..) (Ev.neg (by omega) ((Ev.now _).to ?_))
          rw [List.drop_of_length_le (by simp; omega)]
          simp [essL]
        | succ d ih =>
          intro i out hi ho
          have hstep : 1 ≤ n ^ (k - 1 - i) := by have : 0 < n ^ (k - 1 - i) := Int.pow_pos (by omega); omega
          have h512 := pow_le3 hn (k := k - 1 - i) (by omega)
          refine Ev.step (fun _ => spec_EssentialPlaces.l0.eq_2 ..) (Ev.pos (by omega) ?_)
          rw [w64 (x := (k : Int) - 1) (by omega) (by omega), w64 (by omega) (by omega), show (k : Int) - 1 - i = ((k - 1 - i : Nat) : Int) by omega]
          refine (spec_l2Pow_ev n _ hn ⟨by omega, by omega⟩).bind ?_
          rw [powI_nat]
          have fl : ∀ (e j : Nat) (b : Bool), j + e = l.length → Ev (fun f => spec_EssentialPlaces.l1 f n out (i : Int) (n ^ (k - 1 - i)) b (j : Int) (k : Int) l) (if (b || ((List.range l.length).drop j).any (essAt n l (n ^ (k - 1 - i)))) = true then (out ++ [(i : Int)] ++ essL n k l ((List.range k).drop (i + 1)), true) else (out ++ essL n k l ((List.range k).drop (i + 1)), true)) := by
            intro e
            induction e with
            | zero =>
              intro j b hj
              refine Ev.step (fun _ => spec_EssentialPlaces.l1.eq_2 ..) (Ev.neg (by omega) ?_)
              rw [List.drop_of_length_le (by simp; omega), List.any_nil, Bool.or_false, w64s (n := k) (by omega) (by omega)]
              refine Ev.ite (fun hb => Ev.pos (by omega) ?_) (fun hb => ?_)
              · rw [if_pos hb]
                exact ih (i + 1) _ (by omega) (by simp; omega)
              · rw [if_neg hb]
                exact ih (i + 1) _ (by omega) (by omega)
            | succ e ihe =>
              intro j b hj
              obtain ⟨b1, b2, b3⟩ := baseI_in (n := n) (step := n ^ (k - 1 - i)) (i := (j : Int)) hn.1 hstep ⟨by omega, by omega⟩
              refine Ev.step (fun _ => spec_EssentialPlaces.l1.eq_2 ..) ?_
              rw [b1, rdn, rdi l b2, w64s (i := j) (n := l.length) (by omega) (by omega)]
              refine Ev.pos (by omega) (Ev.neg (by omega) (Ev.neg (by omega) (Ev.ite (fun hb => ?_) (fun hb => ?_))))
              · refine (ihe (j + 1) true (by omega)).to ?_
                rw [hb, Bool.true_or, Bool.true_or]
              · refine Ev.pos (by omega) (Ev.pos b2 (Ev.pos (by omega) ((ihe (j + 1) _ (by omega)).to ?_)))
                rw [drop_cons (List.range l.length) 0 (i := j) (by simp; omega), range_at (by omega), List.any_cons, show b = false by simpa using hb, Bool.false_or]
                have : (gd l j != gd l (baseI n (n ^ (k - 1 - i)) ↑j).toNat) = essAt n l (n ^ (k - 1 - i)) j := by
                  unfold essAt
                  rw [Bool.eq_iff_iff, bne_iff_ne, decide_eq_true_iff]
                rw [this]
          refine (fl l.length 0 false (by omega)).to ?_
          rw [drop_cons (List.range k) 0 (i := i) (by simp; omega), range_at (by omega), essL_cons, List.drop_zero, Bool.false_or]
          change (if essB n k l i = true then _ else _) = _
          split <;> simp_all
      exact key k 0 [] (by omega) (by simp)
  · refine Ev.step (fun _ => spec_EssentialPlaces.j0.eq_2 ..) (Ev.pos rfl ((Ev.now _).to ?_))
    rw [if_neg (fun h => hs h.1)]
theorem laws_markOp_ev (a : Int) (l : List Int) (hl : l.length ≤ 1048576) : Ev (fun k => laws_markOp.f k a l 1) (1 + l.length, asc l.length 1) := by
  unfold laws_markOp.f
  exact (markIntS_ev l 1 (by omega) (by omega)).bind (Ev.now _)
theorem FnExactEssentialPlaces (n a : Int) (l : List Int) (_ : (Lit.int .i64 n).wf = true) (_ : (Lit.int .i64 a).wf = true) (hl : l.length ≤ maxLen) (_ : ∀ x ∈ l, (Lit.int .i64 x).wf = true) : ∃ k, laws_FnExactEssentialPlaces.f k n a l = some true := by
  obtain ⟨t, e, h1, h2, h3⟩ := laws_szOp_eq a l 1048576 hl (by omega)
  refine Ev.rounds ?_
  unfold laws_FnExactEssentialPlaces.f
  rw [e]
  refine Ev.bind1 (Ev.ite (fun h => Ev.now _) (fun h => ?_))
  have hl' : l.length ≤ 1048576 := by omega
  have hr : (essM n a l).1.length ≤ 3 := by
    unfold essM
    split
    · rename_i h
      obtain ⟨k, rfl, hk, -, -⟩ := opB_of h.2
      have := essL_length n k l (List.range k)
      rw [List.length_range] at this
      rw [Int.toNat_natCast]
      show (essL n k l (List.range k)).length ≤ 3
      omega
    · simp
  have hto := laws_toOp_ev a l (by omega)
  refine hto.bind ((spec_EssentialPlaces_ev n a l hl').bind (hto.bind ((impl_EssentialPlaces_ev n a l hl').bind ?_)))
  refine (eqIntS_same _ (by omega)).bind (Ev.pos rfl ?_)
  refine Ev.step (fun _ => laws_FnExactEssentialPlaces.j0.eq_2 ..) (Ev.neg (by simp) ?_)
  refine hto.bind ((laws_eqOp_same a l (by omega)).bind (Ev.pos rfl ?_))
  refine (laws_markOp_ev a l hl').bind (Ev.neg (by simp only []; omega) ?_)
  refine (eqIntS_same _ (by omega)).bind (Ev.pos rfl ?_)
  refine Ev.step (fun _ => laws_FnExactEssentialPlaces.j1.eq_2 ..) (Ev.neg (by simp) ?_)
  refine (markIntS_ev _ 1 (by omega) (by omega)).bind ?_
  refine (heldIntS_ev _ 1 (by omega) (by omega)).bind ?_
  refine Ev.neg (by omega) (Ev.pos rfl ?_)
  refine hto.bind ((impl_EssentialPlaces_ev n a l hl').bind ?_)
  refine (eqIntS_same _ (by omega)).bind (Ev.pos rfl ?_)
  refine Ev.step (fun _ => laws_FnExactEssentialPlaces.j2.eq_2 ..) (Ev.neg (by simp) ?_)
  refine (heldIntS_ev _ 1 (by omega) (by omega)).bind ?_
  exact Ev.neg (by omega) (Ev.pos rfl (Ev.now _))

end Go.Proofs.Ytajabnbonkophaa.Pure
