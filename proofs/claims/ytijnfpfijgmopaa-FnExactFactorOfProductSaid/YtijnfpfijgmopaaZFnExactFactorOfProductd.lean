/- Part 4 of the proof of the law FnExactFactorOfProduct: functions and lists that say what the Go code computes, and that it does; no condition beside those that each theorem states. -/
import Derived.Test.YtijnfpfijgmopaaZFnExactFactorOfProductc
import Derived.Test.YtijnfpfijgmopaaZFnExactFactorOfProductWSized
import Derived.Deep.RegionHeld3
namespace Go.Proofs.Ytijnfpfijgmopaa
open Go.ChangeShapes Go.WideShapes
end Go.Proofs.Ytijnfpfijgmopaa
namespace Go.Proofs.Ytijnfpfijgmopaa.Pure
open Go.RowKit Go.Proofs.Ytijnfpfijgmopaa.Q Go.Proofs.YtijnfpfijgmopaaW.PrintWords Go.Proofs.YtijnfpfijgmopaaW.PrintLast
set_option linter.unusedVariables false
set_option linter.unusedSimpArgs false
theorem Ev.pos {α : Type} {c : Prop} [Decidable c] {f g : Nat → Option α} {r : α} (h : c) (hf : Ev f r) : Ev (fun k => if c then f k else g k) r := by
  simpa only [if_pos h] using hf
theorem Ev.neg {α : Type} {c : Prop} [Decidable c] {f g : Nat → Option α} {r : α} (h : ¬ c) (hg : Ev g r) : Ev (fun k => if c then f k else g k) r := by
  simpa only [if_neg h] using hg
theorem Ev.ite {α : Type} {c : Prop} [Decidable c] {f g : Nat → Option α} {r : α} (h : c → Ev f r) (h' : ¬ c → Ev g r) : Ev (fun k => if c then f k else g k) r := by
  by_cases hc : c
  · exact Ev.pos hc (h hc)
  · exact Ev.neg hc (h' hc)
theorem Ev.bind1 {α β : Type} {x : α} {f : Nat → α → Option β} {r : β} (k : Ev (fun n => f n x) r) : Ev (fun n => (some x).bind (f n)) r := k
theorem _root_.Go.Proofs.YtijnfpfijgmopaaW.PrintWords.Ev.to {α : Type} {g : Nat → Option α} {r s : α} (h : Ev g r) (e : r = s) : Ev g s := e ▸ h
theorem w64 {x : Int} (h1 : -9223372036854775808 ≤ x) (h2 : x ≤ 9223372036854775807) : wrap64 x = x := by unfold wrap64; omega
theorem w64s {i n : Nat} (h : i < n) (hn : n ≤ 9223372036854775807) : wrap64 ((i : Int) + 1) = ((i + 1 : Nat) : Int) := by unfold wrap64; omega
def gd (l : List Int) (i : Nat) : Int := l.getD i 0
theorem rdn (xs : List Int) (i : Nat) : rd xs (i : Int) = gd xs i := by simp [rd, gd]
theorem gd_lt {xs : List Int} {i : Nat} (h : i < xs.length) : gd xs i = xs[i] := by simp [gd, List.getD, h]
theorem ext_gd {a b : List Int} (h : a.length = b.length) (e : ∀ i, i < a.length → gd a i = gd b i) : a = b := by
  apply List.ext_getElem h
  intro i h1 h2
  have := e i h1
  rwa [gd_lt h1, gd_lt h2] at this
theorem take_snoc (l : List Int) {i : Nat} (h : i < l.length) : l.take i ++ [gd l i] = l.take (i + 1) := by
  rw [gd_lt h, List.take_append_getElem]
theorem _root_.Go.Proofs.YtijnfpfijgmopaaW.PrintWords.Ev.and {α β : Type} {g : Nat → Option α} {f : Nat → Option β} {r : α} {s : β} (h : Ev g r) (h' : Ev f s) : ∃ K, ∀ k, K ≤ k → g k = some r ∧ f k = some s := by
  obtain ⟨K, h⟩ := h
  obtain ⟨K', h'⟩ := h'
  exact ⟨max K K', fun k hk => ⟨h k (by omega), h' k (by omega)⟩⟩
def Evs (P : Nat → Prop) : Prop := ∃ K, ∀ k, K ≤ k → P k
theorem Evs.of {α : Type} {g : Nat → Option α} {r : α} (h : Ev g r) : Evs (fun k => g k = some r) := h
theorem Evs.and {P Q : Nat → Prop} (h : Evs P) (h' : Evs Q) : Evs (fun k => P k ∧ Q k) := by
  obtain ⟨K, h⟩ := h
  obtain ⟨K', h'⟩ := h'
  exact ⟨max K K', fun k hk => ⟨h k (by omega), h' k (by omega)⟩⟩
theorem Evs.true {P : Prop} (h : P) : Evs (fun _ => P) := ⟨0, fun _ _ => h⟩
theorem Evs.ex {P : Nat → Prop} (h : Evs P) : ∃ k, P k := by
  obtain ⟨K, h⟩ := h
  exact ⟨K, h K (Nat.le_refl _)⟩
theorem drop_cons {α : Type} (l : List α) (z : α) {i : Nat} (h : i < l.length) : l.drop i = l.getD i z :: l.drop (i + 1) := by
  rw [List.drop_eq_getElem_cons h]
  simp [List.getD, h]
theorem all_loop {α : Type} (l : List α) (z : α) (p : α → Bool) (L : Nat → Int → Option Bool) (hend : Ev (fun k => L k (l.length : Int)) true)
    (hT : ∀ (i : Nat) (r : Bool), i < l.length → p (l.getD i z) = true → Ev (fun k => L k ((i + 1 : Nat) : Int)) r → Ev (fun k => L k (i : Int)) r)
    (hF : ∀ i : Nat, i < l.length → p (l.getD i z) = false → Ev (fun k => L k (i : Int)) false) : ∀ (d i : Nat), i + d = l.length → Ev (fun k => L k (i : Int)) ((l.drop i).all p) := by
  intro d
  induction d with
  | zero =>
    intro i hi
    have : i = l.length := by omega
    subst this
    simpa using hend
  | succ d ih =>
    intro i hi
    rw [drop_cons l z (by omega), List.all_cons]
    cases hp : p (l.getD i z) with
    | true => simpa using hT i _ (by omega) hp (ih (i + 1) (by omega))
    | false => simpa using hF i (by omega) hp
theorem map_loop {α β γ : Type} (l : List α) (z : α) (f : α → β) (L : Nat → List β → Int → Option γ) (fin : γ) (hend : Ev (fun k => L k (l.map f) (l.length : Int)) fin)
    (hstep : ∀ (i : Nat) (out : List β), i < l.length → out.length = i → Ev (fun k => L k (out ++ [f (l.getD i z)]) ((i + 1 : Nat) : Int)) fin → Ev (fun k => L k out (i : Int)) fin) :
    ∀ (d i : Nat), i + d = l.length → Ev (fun k => L k ((l.take i).map f) (i : Int)) fin := by
  intro d
  induction d with
  | zero =>
    intro i hi
    have : i = l.length := by omega
    subst this
    simpa using hend
  | succ d ih =>
    intro i hi
    refine hstep i _ (by omega) (by simp; omega) ?_
    have := ih (i + 1) (by omega)
    rw [List.take_succ_eq_append_getElem (by omega), List.map_append] at this
    simpa [List.getD, show i < l.length by omega] using this
theorem set_loop {α β γ : Type} (l : List α) (z : α) (f : α → β) (L : Nat → List β → Int → Option γ) (fin : γ) (hend : Ev (fun k => L k (l.map f) (l.length : Int)) fin)
    (hstep : ∀ (i : Nat) (out : List β), i < l.length → out.length = l.length → Ev (fun k => L k (out.set i (f (l.getD i z))) ((i + 1 : Nat) : Int)) fin → Ev (fun k => L k out (i : Int)) fin) :
    ∀ (d i : Nat) (out : List β), i + d = l.length → out.length = l.length → (∀ j, j < i → out[j]? = (l.map f)[j]?) → Ev (fun k => L k out (i : Int)) fin := by
  intro d
  induction d with
  | zero =>
    intro i out hi ho h
    have : i = l.length := by omega
    subst this
    have : out = l.map f := by
      apply List.ext_getElem?
      intro j
      rcases Nat.lt_or_ge j l.length with h1 | h1
      · exact h j h1
      · rw [List.getElem?_eq_none (by omega), List.getElem?_eq_none (by simpa using h1)]
    rw [this]
    exact hend
  | succ d ih =>
    intro i out hi ho h
    refine hstep i out (by omega) ho (ih (i + 1) _ (by omega) (by simpa using ho) (fun j hj => ?_))
    rw [List.getElem?_set]
    by_cases e : i = j
    · subst e
      rw [if_pos rfl, if_pos (by omega)]
      simp [List.getD, show i < l.length by omega]
    · rw [if_neg e]
      exact h j (by omega)
def sizeB (n : Int) : Bool := decide (1 ≤ n ∧ n ≤ 8)
theorem spec_l1In_eq (a b c : Int) : spec_l1In.f a b c = some (decide (b ≤ a ∧ a ≤ c)) := by
  unfold spec_l1In.f
  split
  · congr 1; simp; omega
  · congr 1; simp; omega
theorem asc_at {n i : Nat} (a : Int) (h : i < n) : gd (asc n a) i = a + i := by simp [asc, gd, List.getD, h]
theorem toIntS_loop (l : List Int) (hl : l.length ≤ 35184372088832) : ∀ (d i : Nat) (x : List Int), i + d = l.length → x.length = l.length → (∀ j, j < i → gd x j = gd l j) → Ev (fun k => laws_toIntS.l0 k l x (i : Int)) l := by
  intro d
  induction d with
  | zero =>
    intro i x hi hx h
    refine Ev.step (fun _ => laws_toIntS.l0.eq_2 ..) ?_
    refine Ev.neg (by omega) ?_
    have : x = l := by
      apply List.ext_getElem hx
      intro j h1 h2
      have := h j (by omega)
      simpa [gd, List.getD, h1, h2] using this
    subst this
    exact Ev.now _
  | succ d ih =>
    intro i x hi hx h
    refine Ev.step (fun _ => laws_toIntS.l0.eq_2 ..) ?_
    refine Ev.pos (by omega) ?_
    refine Ev.pos (by omega) ?_
    refine Ev.pos (by omega) ?_
    rw [w64s (n := l.length) (by omega) (by omega), rdn, Int.toNat_natCast]
    refine ih (i + 1) _ (by omega) (by simpa using hx) ?_
    intro j hj
    by_cases e : j = i
    · subst e
      simp [gd, List.getD, show j < x.length by omega]
    · have := h j (by omega)
      simp only [gd, List.getD] at this ⊢
      rw [List.getElem?_set_ne (by omega)]
      exact this
theorem toIntS_ev (l : List Int) (hl : l.length ≤ 35184372088832) : Ev (fun k => laws_toIntS.f k l) l := by
  unfold laws_toIntS.f
  refine Ev.pos (by omega) ?_
  refine Ev.pos (by omega) ?_
  exact toIntS_loop l hl l.length 0 _ (by omega) (by simp) (fun j hj => by omega)
theorem eqIntS_loop (a b : List Int) (hb : b.length = a.length) (hl : a.length ≤ 35184372088832) : ∀ (d i : Nat), i + d = a.length → Ev (fun k => laws_eqIntS.l0 k a b (i : Int)) (decide (a.drop i = b.drop i)) := by
  intro d
  induction d with
  | zero =>
    intro i hi
    refine Ev.step (fun _ => laws_eqIntS.l0.eq_2 ..) ?_
    refine Ev.neg (by omega) ?_
    refine (Ev.now _).to ?_
    rw [List.drop_of_length_le (by omega), List.drop_of_length_le (by omega)]
    simp
  | succ d ih =>
    intro i hi
    refine Ev.step (fun _ => laws_eqIntS.l0.eq_2 ..) ?_
    refine Ev.pos (by omega) ?_
    refine Ev.pos (by omega) ?_
    refine Ev.pos (by omega) ?_
    rw [w64s (n := a.length) (by omega) (by omega), rdn, rdn]
    have e1 : a.drop i = gd a i :: a.drop (i + 1) := by rw [gd_lt (by omega)]; exact List.drop_eq_getElem_cons (by omega)
    have e2 : b.drop i = gd b i :: b.drop (i + 1) := by rw [gd_lt (by omega)]; exact List.drop_eq_getElem_cons (by omega)
    refine Ev.ite (fun h => ?_) (fun h => ?_)
    · refine (ih (i + 1) (by omega)).to ?_
      rw [e1, e2, h]
      simp
    · refine (Ev.now _).to ?_
      rw [e1, e2]
      simp [h]
theorem eqIntS_ev (a b : List Int) (hl : a.length ≤ 35184372088832) : Ev (fun k => laws_eqIntS.f k a b) (decide (a = b)) := by
  unfold laws_eqIntS.f
  refine Ev.ite (fun h => ?_) (fun h => ?_)
  · exact eqIntS_loop a b (by omega) hl a.length 0 (by omega)
  · refine (Ev.now _).to ?_
    have : a ≠ b := fun e => h (by rw [e])
    simp [this]
theorem eqIntS_same (a : List Int) (hl : a.length ≤ 35184372088832) : Ev (fun k => laws_eqIntS.f k a a) true := (eqIntS_ev a a hl).to (by simp)
abbrev IOp := S87
abbrev LOp := S109
theorem rdO_n (xs : List IOp) (i : Nat) : rd_T87 xs (i : Int) = xs.getD i z87 := by simp [rd_T87]
theorem rdL_n (xs : List LOp) (i : Nat) : rd_T109 xs (i : Int) = xs.getD i z109 := by simp [rd_T109]
def inB (n x : Int) : Bool := decide (0 ≤ x ∧ x < n)
def powI (n k : Int) : Int := n ^ k.toNat
def opB (n a : Int) (l : List Int) : Bool := decide (0 ≤ a ∧ a ≤ 3) && (decide ((l.length : Int) = powI n a) && l.all (inB n))
def algB (n : Int) (ops : List IOp) : Bool := sizeB n && (decide (ops.length ≤ 4) && ops.all fun x => opB n x.f0 x.f1)
theorem impl_power_ev (n k : Int) (hn : 1 ≤ n ∧ n ≤ 8) (hk : 0 ≤ k ∧ k ≤ 3) : Ev (fun f => impl_power.f f n k) (powI n k) := by
  have h1 : n = 1 ∨ n = 2 ∨ n = 3 ∨ n = 4 ∨ n = 5 ∨ n = 6 ∨ n = 7 ∨ n = 8 := by omega
  have h2 : k = 0 ∨ k = 1 ∨ k = 2 ∨ k = 3 := by omega
  refine Ev.of (fun f => impl_power.mono n k f) (k := 5) ?_
  rcases h1 with rfl | rfl | rfl | rfl | rfl | rfl | rfl | rfl <;> rcases h2 with rfl | rfl | rfl | rfl <;> decide +kernel
theorem spec_l2Pow_ev (n k : Int) (hn : 1 ≤ n ∧ n ≤ 8) (hk : 0 ≤ k ∧ k ≤ 3) : Ev (fun f => spec_l2Pow.f f n k) (powI n k) := by
  have h1 : n = 1 ∨ n = 2 ∨ n = 3 ∨ n = 4 ∨ n = 5 ∨ n = 6 ∨ n = 7 ∨ n = 8 := by omega
  have h2 : k = 0 ∨ k = 1 ∨ k = 2 ∨ k = 3 := by omega
  refine Ev.of (fun f => spec_l2Pow.mono n k f) (k := 5) ?_
  rcases h1 with rfl | rfl | rfl | rfl | rfl | rfl | rfl | rfl <;> rcases h2 with rfl | rfl | rfl | rfl <;> decide +kernel
theorem impl_inSize_ev (l : List Int) (n : Int) (hl : l.length ≤ 35184372088832) : Ev (fun k => impl_inSize.f k l n) (l.all (inB n)) := by
  unfold impl_inSize.f
  refine all_loop l 0 (inB n) (fun k i => impl_inSize.l0 k n l (l.length : Int) i) ?_ ?_ ?_ l.length 0 (by omega)
  · exact Ev.step (fun _ => impl_inSize.l0.eq_2 ..) (Ev.neg (by omega) (Ev.now _))
  · intro i r hi hp h
    have hp' := of_decide_eq_true hp
    refine Ev.step (fun _ => impl_inSize.l0.eq_2 ..) ?_
    rw [w64s (n := l.length) (by omega) (by omega), rdn]
    change 0 ≤ gd l i ∧ gd l i < n at hp'
    exact Ev.pos (by omega) (Ev.pos (by omega) (Ev.pos (by omega) (Ev.neg (by omega) (Ev.neg (by omega) h))))
  · intro i hi hp
    have hp' := of_decide_eq_false hp
    change ¬ (0 ≤ gd l i ∧ gd l i < n) at hp'
    refine Ev.step (fun _ => impl_inSize.l0.eq_2 ..) ?_
    rw [rdn]
    refine Ev.pos (by omega) (Ev.pos (by omega) (Ev.pos (by omega) (Ev.ite (fun _ => Ev.now _) (fun h1 => Ev.pos (by omega) (Ev.now _)))))
theorem impl_isOp_ev (n a : Int) (l : List Int) (hn : sizeB n = true) (hl : l.length ≤ 35184372088832) : Ev (fun k => impl_isOp.f k a l n) (opB n a l) := by
  have hn' := of_decide_eq_true hn
  unfold impl_isOp.f opB
  refine Ev.ite (fun h1 => Ev.ite (fun h2 => ?_) (fun h2 => (Ev.now _).to ?_)) (fun h1 => (Ev.now _).to ?_)
  · refine (impl_power_ev n a hn' ⟨by omega, by omega⟩).bind (Ev.ite (fun h3 => ?_) (fun h3 => (Ev.now _).to ?_))
    · refine (impl_inSize_ev l n hl).bind ((Ev.now _).to ?_)
      rw [decide_eq_true (show 0 ≤ a ∧ a ≤ 3 by omega), decide_eq_true h3]
      simp
    · rw [decide_eq_false h3]
      simp
  · rw [decide_eq_false (show ¬ (0 ≤ a ∧ a ≤ 3) by omega)]
    simp
  · rw [decide_eq_false (show ¬ (0 ≤ a ∧ a ≤ 3) by omega)]
    simp
theorem spec_l2Op_ev (n a : Int) (l : List Int) (hn : sizeB n = true) (hl : l.length ≤ 35184372088832) : Ev (fun k => spec_l2Op.f k n a l) (opB n a l) := by
  have hn' := of_decide_eq_true hn
  have loop : Ev (fun k => spec_l2Op.l0 k n 0 a l) (l.all (inB n)) := by
    refine all_loop l 0 (inB n) (fun k i => spec_l2Op.l0 k n i a l) ?_ ?_ ?_ l.length 0 (by omega)
    · exact Ev.step (fun _ => spec_l2Op.l0.eq_2 ..) (Ev.neg (by omega) (Ev.now _))
    · intro i r hi hp h
      have hp' := of_decide_eq_true hp
      change 0 ≤ gd l i ∧ gd l i < n at hp'
      refine Ev.step (fun _ => spec_l2Op.l0.eq_2 ..) ?_
      rw [w64s (n := l.length) (by omega) (by omega), rdn, spec_l1In_eq, w64 (by omega) (by omega)]
      refine Ev.pos (by omega) (Ev.pos (by omega) (Ev.bind1 (Ev.pos (decide_eq_true (by omega)) h)))
    · intro i hi hp
      have hp' := of_decide_eq_false hp
      change ¬ (0 ≤ gd l i ∧ gd l i < n) at hp'
      refine Ev.step (fun _ => spec_l2Op.l0.eq_2 ..) ?_
      rw [rdn, spec_l1In_eq, w64 (by omega) (by omega)]
      refine Ev.pos (by omega) (Ev.pos (by omega) (Ev.bind1 (Ev.neg (by rw [decide_eq_true_eq]; omega) (Ev.now _))))
  unfold spec_l2Op.f opB
  rw [spec_l1In_eq]
  refine Ev.bind1 (Ev.ite (fun h1 => ?_) (fun h1 => ?_))
  · have h1' := of_decide_eq_true h1
    refine (spec_l2Pow_ev n a hn' h1').bind ?_
    refine Ev.step (fun _ => spec_l2Op.j0.eq_2 ..) (Ev.ite (fun h2 => (Ev.now _).to ?_) (fun h2 => loop.to ?_))
    · have : ¬ ((l.length : Int) = powI n a) := by simpa using h2
      simp [this]
    · have : (l.length : Int) = powI n a := by simpa using h2
      rw [decide_eq_true h1', decide_eq_true this]
      simp
  · refine Ev.step (fun _ => spec_l2Op.j0.eq_2 ..) (Ev.pos rfl ((Ev.now _).to ?_))
    simp at h1 ⊢
    omega
def fitO (ops : List IOp) : Prop := ops.length ≤ 8796093022208 ∧ ∀ x ∈ ops, x.f1.length ≤ 1048576
theorem fitO_at {ops : List IOp} (h : fitO ops) {i : Nat} (hi : i < ops.length) : (ops.getD i z87).f1.length ≤ 1048576 := by
  refine h.2 _ ?_
  rw [List.getD_eq_getElem?_getD, List.getElem?_eq_getElem hi]
  exact List.getElem_mem hi
theorem impl_IsAlgebra_ev (n : Int) (ops : List IOp) (hf : fitO ops) : Ev (fun k => impl_IsAlgebra.f k n ops) (algB n ops) := by
  have hl := hf.1
  have loop : sizeB n = true → Ev (fun k => impl_IsAlgebra.l0 k ops (ops.length : Int) 0 n ops) (ops.all fun x => opB n x.f0 x.f1) := by
    intro hn
    refine all_loop ops z87 (fun x => opB n x.f0 x.f1) (fun k i => impl_IsAlgebra.l0 k ops (ops.length : Int) i n ops) ?_ ?_ ?_ ops.length 0 (by omega)
    · exact Ev.step (fun _ => impl_IsAlgebra.l0.eq_2 ..) (Ev.neg (by omega) (Ev.now _))
    · intro i r hi hp h
      refine Ev.step (fun _ => impl_IsAlgebra.l0.eq_2 ..) ?_
      rw [w64s (n := ops.length) (by omega) (by omega), rdO_n]
      have he := impl_isOp_ev n (ops.getD i z87).f0 (ops.getD i z87).f1 hn (by have := fitO_at hf hi; omega)
      rw [hp] at he
      exact Ev.pos (by omega) (Ev.pos (by omega) (Ev.pos (by omega) (he.bind (Ev.pos rfl h))))
    · intro i hi hp
      refine Ev.step (fun _ => impl_IsAlgebra.l0.eq_2 ..) ?_
      rw [rdO_n]
      have he := impl_isOp_ev n (ops.getD i z87).f0 (ops.getD i z87).f1 hn (by have := fitO_at hf hi; omega)
      rw [hp] at he
      exact Ev.pos (by omega) (Ev.pos (by omega) (Ev.pos (by omega) (he.bind (Ev.neg (by decide) (Ev.now _)))))
  unfold impl_IsAlgebra.f
  have no : sizeB n = false → algB n ops = false := fun h => by simp [algB, h]
  refine Ev.ite (fun h => ?_) (fun h => Ev.ite (fun h' => ?_) (fun h' => ?_))
  · exact Ev.step (fun _ => impl_IsAlgebra.j0.eq_2 ..) (Ev.pos rfl ((Ev.now _).to (no (decide_eq_false (by omega))).symm))
  · exact Ev.step (fun _ => impl_IsAlgebra.j0.eq_2 ..) (Ev.pos rfl ((Ev.now _).to (no (decide_eq_false (by omega))).symm))
  · have hn : sizeB n = true := decide_eq_true (by omega)
    refine Ev.step (fun _ => impl_IsAlgebra.j0.eq_2 ..) (Ev.ite (fun h2 => (Ev.now _).to ?_) (fun h2 => (loop hn).to ?_))
    · have := of_decide_eq_true h2
      simp [algB, show ¬ ops.length ≤ 4 by omega]
    · have : ops.length ≤ 4 := by simp at h2; omega
      simp [algB, hn, this]
theorem spec_l2Good_ev (n : Int) (ops : List IOp) (hf : fitO ops) : Ev (fun k => spec_l2Good.f k n ops) (algB n ops) := by
  have hl := hf.1
  have loop : sizeB n = true → Ev (fun k => spec_l2Good.l0 k 0 n ops) (ops.all fun x => opB n x.f0 x.f1) := by
    intro hn
    refine all_loop ops z87 (fun x => opB n x.f0 x.f1) (fun k i => spec_l2Good.l0 k i n ops) ?_ ?_ ?_ ops.length 0 (by omega)
    · exact Ev.step (fun _ => spec_l2Good.l0.eq_2 ..) (Ev.neg (by omega) (Ev.now _))
    · intro i r hi hp h
      refine Ev.step (fun _ => spec_l2Good.l0.eq_2 ..) ?_
      rw [w64s (n := ops.length) (by omega) (by omega), rdO_n]
      have he := spec_l2Op_ev n (ops.getD i z87).f0 (ops.getD i z87).f1 hn (by have := fitO_at hf hi; omega)
      rw [hp] at he
      exact Ev.pos (by omega) (Ev.pos (by omega) (he.bind (Ev.pos rfl h)))
    · intro i hi hp
      refine Ev.step (fun _ => spec_l2Good.l0.eq_2 ..) ?_
      rw [rdO_n]
      have he := spec_l2Op_ev n (ops.getD i z87).f0 (ops.getD i z87).f1 hn (by have := fitO_at hf hi; omega)
      rw [hp] at he
      exact Ev.pos (by omega) (Ev.pos (by omega) (he.bind (Ev.neg (by decide) (Ev.now _))))
  unfold spec_l2Good.f
  rw [spec_l1In_eq]
  refine Ev.bind1 (Ev.ite (fun h => ?_) (fun h => ?_))
  · refine Ev.step (fun _ => spec_l2Good.j0.eq_2 ..) (Ev.ite (fun h2 => (Ev.now _).to ?_) (fun h2 => (loop h).to ?_))
    · have := of_decide_eq_true h2
      simp [algB, show ¬ ops.length ≤ 4 by omega]
    · have : ops.length ≤ 4 := by simp at h2; omega
      have h' : sizeB n = true := h
      simp [algB, h', this]
  · refine Ev.step (fun _ => spec_l2Good.j0.eq_2 ..) (Ev.pos rfl ((Ev.now _).to ?_))
    have h' : sizeB n = false := by simpa [sizeB] using h
    simp [algB, h']
def argsM (n : Int) : Nat → Int → List Int
  | 0, _ => []
  | k + 1, i => argsM n k (i / n) ++ [i % n]
def valM (n : Int) (l : List Int) : Int := l.foldl (fun at_ x => at_ * n + x) 0
theorem argsM_length (n : Int) : ∀ (k : Nat) (i : Int), (argsM n k i).length = k := by
  intro k
  induction k with
  | zero => intro i; rfl
  | succ k ih => intro i; simp [argsM, ih]
theorem argsM_in {n : Int} (hn : 1 ≤ n) : ∀ (k : Nat) (i : Int), 0 ≤ i → ∀ x ∈ argsM n k i, 0 ≤ x ∧ x < n := by
  intro k
  induction k with
  | zero => intro i _ x hx; simp [argsM] at hx
  | succ k ih =>
    intro i hi x hx
    simp only [argsM, List.mem_append, List.mem_singleton] at hx
    rcases hx with hx | rfl
    · exact ih _ (Int.ediv_nonneg hi (by omega)) x hx
    · exact ⟨Int.emod_nonneg _ (by omega), Int.emod_lt_of_pos _ (by omega)⟩
theorem valM_snoc (n : Int) (l : List Int) (x : Int) : valM n (l ++ [x]) = valM n l * n + x := by simp [valM]
theorem rev_ind {α : Type} {P : List α → Prop} (h0 : P []) (h1 : ∀ l x, P l → P (l ++ [x])) (l : List α) : P l := by
  have key : ∀ (n : Nat) (l : List α), l.length = n → P l := by
    intro n
    induction n with
    | zero =>
      intro l hl
      have : l = [] := List.eq_nil_of_length_eq_zero hl
      subst this
      exact h0
    | succ n ih =>
      intro l hl
      have hne : l ≠ [] := fun h => by subst h; simp at hl
      rw [← List.dropLast_concat_getLast hne]
      exact h1 _ _ (ih _ (by simp [hl]))
  exact key l.length l rfl
theorem valM_in {n : Int} (hn : 1 ≤ n) (l : List Int) : (∀ x ∈ l, 0 ≤ x ∧ x < n) → 0 ≤ valM n l ∧ valM n l < n ^ l.length := by
  induction l using rev_ind with
  | h0 => intro _; simp [valM]
  | h1 l x ih =>
    intro h
    obtain ⟨h1, h2⟩ := ih (fun y hy => h y (by simp [hy]))
    obtain ⟨h3, h4⟩ := h x (by simp)
    rw [valM_snoc, List.length_append, List.length_singleton, Int.pow_succ]
    have h5 : 0 ≤ valM n l * n := Int.mul_nonneg h1 (by omega)
    have h6 : (valM n l + 1) * n ≤ n ^ l.length * n := Int.mul_le_mul_of_nonneg_right (by omega) (by omega)
    rw [Int.add_mul] at h6
    omega
theorem div_in {i n : Int} (h0 : 0 ≤ i) (hi : i ≤ 1152921504606846976) (hn : 1 ≤ n) : wrap64 (Int.tdiv i n) = i / n ∧ 0 ≤ i / n ∧ i / n ≤ i := by
  have h1 : Int.tdiv i n = i / n := Int.tdiv_eq_ediv_of_nonneg h0
  have h2 : 0 ≤ i / n := Int.ediv_nonneg h0 (by omega)
  have h3 : i / n ≤ i := Int.ediv_le_self n h0
  exact ⟨by rw [h1, w64 (by omega) (by omega)], h2, h3⟩
theorem impl_argsAt_loop (n : Int) (hn : 1 ≤ n) (k : Nat) (hk : k ≤ 8796093022208) : ∀ (j : Nat) (i : Int) (x : List Int), j ≤ k → x.length = k → 0 ≤ i → i ≤ 1152921504606846976 → Ev (fun f => impl_argsAt.l0 f i n x ((j : Int) - 1)) (argsM n j i ++ x.drop j) := by
  intro j
  induction j with
  | zero =>
    intro i x _ _ _ _
    exact Ev.step (fun _ => impl_argsAt.l0.eq_2 ..) (Ev.neg (by omega) (Ev.now _))
  | succ j ih =>
    intro i x hj hx h0 hi
    obtain ⟨e1, e2, e3⟩ := div_in h0 hi hn
    refine Ev.step (fun _ => impl_argsAt.l0.eq_2 ..) (Ev.pos (by omega) (Ev.neg (by omega) (Ev.pos (by omega) (Ev.pos (by omega) ?_))))
    rw [e1, Int.tmod_eq_emod_of_nonneg h0, show (((j + 1 : Nat) : Int) - 1).toNat = j by omega, w64 (x := ((j + 1 : Nat) : Int) - 1 - 1) (by omega) (by omega), show (((j + 1 : Nat) : Int) - 1 - 1) = (j : Int) - 1 by omega]
    refine (ih (i / n) (x.set j (i % n)) (by omega) (by simpa using hx) e2 (by omega)).to ?_
    rw [argsM, List.append_assoc]
    congr 1
    rw [List.drop_eq_getElem_cons (by simp; omega), List.drop_set_of_lt (by omega)]
    simp
theorem impl_argsAt_ev (n : Int) (k : Nat) (i : Int) (hn : 1 ≤ n) (hk : k ≤ 3) (h0 : 0 ≤ i) (hi : i ≤ 1152921504606846976) : Ev (fun f => impl_argsAt.f f i (k : Int) n) (argsM n k i) := by
  unfold impl_argsAt.f
  refine Ev.pos (by omega) (Ev.pos (by omega) ?_)
  rw [w64 (by omega) (by omega)]
  exact (impl_argsAt_loop n hn k (by omega) k i _ (Nat.le_refl _) (by simp) h0 hi).to (by simp)
theorem grow_in {n a x : Int} (hn : 1 ≤ n ∧ n ≤ 8) (ha : 0 ≤ a ∧ a ≤ 1048576) (hx : 0 ≤ x ∧ x < n) : wrap64 (wrap64 (a * n) + x) = a * n + x := by
  have h1 : 0 ≤ a * n := Int.mul_nonneg ha.1 (by omega)
  have h2 : a * n ≤ 1048576 * 8 := Int.mul_le_mul ha.2 hn.2 (by omega) (by omega)
  rw [w64 (x := a * n) (by omega) (by omega), w64 (by omega) (by omega)]
theorem pow_le3 {n : Int} (hn : 1 ≤ n ∧ n ≤ 8) {k : Nat} (hk : k ≤ 3) : n ^ k ≤ 512 := by
  have h1 : n = 1 ∨ n = 2 ∨ n = 3 ∨ n = 4 ∨ n = 5 ∨ n = 6 ∨ n = 7 ∨ n = 8 := by omega
  have h2 : k = 0 ∨ k = 1 ∨ k = 2 ∨ k = 3 := by omega
  rcases h1 with rfl | rfl | rfl | rfl | rfl | rfl | rfl | rfl <;> rcases h2 with rfl | rfl | rfl | rfl <;> decide
theorem algB_size {n : Int} {ops : List IOp} (h : algB n ops = true) : 1 ≤ n ∧ n ≤ 8 := by
  simp [algB] at h
  exact of_decide_eq_true h.1
theorem algB_few {n : Int} {ops : List IOp} (h : algB n ops = true) : ops.length ≤ 4 := by
  simp [algB] at h
  exact h.2.1
theorem algB_op {n : Int} {ops : List IOp} (h : algB n ops = true) {i : Nat} (hi : i < ops.length) : opB n (ops.getD i z87).f0 (ops.getD i z87).f1 = true := by
  simp [algB] at h
  have := h.2.2 (ops.getD i z87) (by rw [List.getD_eq_getElem?_getD, List.getElem?_eq_getElem hi]; exact List.getElem_mem hi)
  exact this
theorem opB_of {n a : Int} {l : List Int} (h : opB n a l = true) : ∃ k : Nat, a = k ∧ k ≤ 3 ∧ (l.length : Int) = n ^ k ∧ ∀ x ∈ l, 0 ≤ x ∧ x < n := by
  simp only [opB, Bool.and_eq_true, decide_eq_true_eq, List.all_eq_true, inB] at h
  refine ⟨a.toNat, by omega, by omega, h.2.1, h.2.2⟩
def conv (l : List LOp) : List IOp := l.map fun x => ⟨x.f0, x.f1⟩
theorem conv_length (l : List LOp) : (conv l).length = l.length := by simp [conv]
theorem laws_szIntS_eq (l : List Int) (t : Int) (hl : l.length ≤ maxLen) (ht : 0 ≤ t ∧ t ≤ 1048576) : ∃ r, laws_szIntS.f l t = some r ∧ -1 ≤ r ∧ (0 ≤ r → r = t - l.length) ∧ (r < 0 → t < (l.length : Int)) := by
  unfold maxLen at hl
  unfold laws_szIntS.f
  rw [w64 (by omega) (by omega)]
  split
  · exact ⟨-1, rfl, by omega, by omega, by omega⟩
  · exact ⟨_, rfl, by omega, by omega, by omega⟩
theorem laws_szOp_eq (a : Int) (l : List Int) (t : Int) (hl : l.length ≤ maxLen) (ht : 0 ≤ t ∧ t ≤ 1048576) : ∃ r, laws_szOp.f a l t = some r ∧ -1 ≤ r ∧ (0 ≤ r → r = t - l.length) ∧ (r < 0 → t < (l.length : Int)) := by
  obtain ⟨r, hr, h1, h2, h3⟩ := laws_szIntS_eq l t hl ht
  unfold laws_szOp.f
  rw [hr]
  simp only [Option.bind_some]
  split
  · exact ⟨-1, rfl, by omega, by omega, fun _ => h3 (by omega)⟩
  · exact ⟨r, rfl, h1, h2, h3⟩
theorem laws_szOpS_loop (l : List LOp) (hl : l.length ≤ 1048576) (hg : ∀ x ∈ l, x.f1.length ≤ maxLen) : ∀ (d i : Nat) (t : Int), i + d = l.length → 0 ≤ t ∧ t ≤ 1048576 →
    ∃ r, Ev (fun k => laws_szOpS.l0 k l t (i : Int)) r ∧ -1 ≤ r ∧ r ≤ t ∧ (0 ≤ r → ∀ x ∈ l.drop i, (x.f1.length : Int) ≤ t) := by
  intro d
  induction d with
  | zero =>
    intro i t hi ht
    refine ⟨t, Ev.step (fun _ => laws_szOpS.l0.eq_2 ..) (Ev.neg (by omega) (Ev.now _)), by omega, by omega, fun _ x hx => ?_⟩
    rw [List.drop_of_length_le (by omega)] at hx
    simp at hx
  | succ d ih =>
    intro i t hi ht
    have hm : l.getD i z109 ∈ l := by
      rw [List.getD_eq_getElem?_getD, List.getElem?_eq_getElem (by omega)]
      exact List.getElem_mem _
    obtain ⟨r, hr, h1, h2, h3⟩ := laws_szOp_eq (l.getD i z109).f0 (l.getD i z109).f1 t (hg _ hm) ht
    by_cases hn : r < 0
    · refine ⟨-1, Ev.step (fun _ => laws_szOpS.l0.eq_2 ..) ?_, by omega, by omega, by omega⟩
      rw [rdL_n, hr]
      exact Ev.pos (by omega) (Ev.pos (by omega) (Ev.bind1 (Ev.pos hn (Ev.now _))))
    · have he := h2 (by omega)
      obtain ⟨q, hq, h4, h5, h6⟩ := ih (i + 1) r (by omega) (by omega)
      refine ⟨q, Ev.step (fun _ => laws_szOpS.l0.eq_2 ..) ?_, h4, by omega, fun h0 x hx => ?_⟩
      · rw [rdL_n, hr, w64s (n := l.length) (by omega) (by omega)]
        exact Ev.pos (by omega) (Ev.pos (by omega) (Ev.bind1 (Ev.neg hn hq)))
      · rw [drop_cons l z109 (by omega), List.mem_cons] at hx
        rcases hx with rfl | hx
        · omega
        · have := h6 h0 x hx
          omega
theorem laws_szOpS_ev (l : List LOp) (t : Int) (hl : l.length ≤ maxLen) (hg : ∀ x ∈ l, x.f1.length ≤ maxLen) (ht : 0 ≤ t ∧ t ≤ 1048576) :
    ∃ r, Ev (fun k => laws_szOpS.f k l t) r ∧ -1 ≤ r ∧ r ≤ t ∧ (0 ≤ r → (l.length : Int) ≤ t ∧ ∀ x ∈ l, (x.f1.length : Int) ≤ t) := by
  unfold maxLen at hl
  by_cases h : t - (l.length : Int) < 0
  · refine ⟨-1, ?_, by omega, by omega, by omega⟩
    unfold laws_szOpS.f
    rw [w64 (by omega) (by omega)]
    exact Ev.pos h (Ev.now _)
  · obtain ⟨r, h1, h2, h3, h4⟩ := laws_szOpS_loop l (by omega) hg l.length 0 (t - l.length) (by omega) (by omega)
    refine ⟨r, ?_, h2, by omega, fun h0 => ⟨by omega, fun x hx => ?_⟩⟩
    · unfold laws_szOpS.f
      rw [w64 (by omega) (by omega)]
      exact Ev.neg h h1
    · have := h4 h0 x (by simpa using hx)
      omega
theorem laws_szAlgebra_ev (s : Int) (l : List LOp) (t : Int) (hl : l.length ≤ maxLen) (hg : ∀ x ∈ l, x.f1.length ≤ maxLen) (ht : 0 ≤ t ∧ t ≤ 1048576) :
    ∃ r, Ev (fun k => laws_szAlgebra.f k s l t) r ∧ -1 ≤ r ∧ r ≤ t ∧ (0 ≤ r → (l.length : Int) ≤ t ∧ ∀ x ∈ l, (x.f1.length : Int) ≤ t) := by
  obtain ⟨r, h1, h2, h3, h4⟩ := laws_szOpS_ev l t hl hg ht
  unfold laws_szAlgebra.f
  by_cases h : r < 0
  · exact ⟨-1, h1.bind (Ev.pos h (Ev.now _)), by omega, by omega, by omega⟩
  · exact ⟨r, h1.bind (Ev.neg h (Ev.now _)), h2, h3, h4⟩
theorem laws_toOp_ev (a : Int) (l : List Int) (hl : l.length ≤ 35184372088832) : Ev (fun k => laws_toOp.f k a l) (a, l) := by
  unfold laws_toOp.f
  exact (toIntS_ev l hl).bind (Ev.now _)
theorem laws_toOpS_ev (l : List LOp) (hl : l.length ≤ 8796093022208) (hg : ∀ x ∈ l, x.f1.length ≤ 35184372088832) : Ev (fun k => laws_toOpS.f k l) (conv l) := by
  unfold laws_toOpS.f
  refine Ev.pos (by omega) (Ev.pos (by omega) ?_)
  refine set_loop l z109 (fun x : LOp => (⟨x.f0, x.f1⟩ : IOp)) (fun k out i => laws_toOpS.l0 k l out i) (conv l) ?_ ?_ l.length 0 _ (by omega) (by simp) (fun j hj => by omega)
  · exact Ev.step (fun _ => laws_toOpS.l0.eq_2 ..) (Ev.neg (by omega) (Ev.now _))
  · intro i out hi ho h
    have hm : l.getD i z109 ∈ l := by
      rw [List.getD_eq_getElem?_getD, List.getElem?_eq_getElem (by omega)]
      exact List.getElem_mem _
    refine Ev.step (fun _ => laws_toOpS.l0.eq_2 ..) ?_
    rw [rdL_n, w64s (n := l.length) (by omega) (by omega), Int.toNat_natCast]
    exact Ev.pos (by omega) (Ev.pos (by omega) ((laws_toOp_ev _ _ (hg _ hm)).bind (Ev.pos (by omega) h)))
theorem laws_toAlgebra_ev (s : Int) (l : List LOp) (hl : l.length ≤ 8796093022208) (hg : ∀ x ∈ l, x.f1.length ≤ 35184372088832) : Ev (fun k => laws_toAlgebra.f k s l) (s, conv l) := by
  unfold laws_toAlgebra.f
  exact (laws_toOpS_ev l hl hg).bind (Ev.now _)
theorem laws_eqOp_same (a : Int) (l : List Int) (hl : l.length ≤ 35184372088832) : Ev (fun k => laws_eqOp.f k a l a l) true := by
  unfold laws_eqOp.f
  exact Ev.pos rfl ((eqIntS_same l hl).bind (Ev.pos rfl (Ev.now _)))
theorem laws_eqOpS_same (l : List IOp) (hf : fitO l) : Ev (fun k => laws_eqOpS.f k l l) true := by
  have hl := hf.1
  unfold laws_eqOpS.f
  refine Ev.pos rfl ?_
  have : Ev (fun k => laws_eqOpS.l0 k l l ((0 : Nat) : Int)) ((l.drop 0).all fun _ => true) := by
    refine all_loop l z87 (fun _ => true) (fun k i => laws_eqOpS.l0 k l l i) ?_ ?_ ?_ l.length 0 (by omega)
    · exact Ev.step (fun _ => laws_eqOpS.l0.eq_2 ..) (Ev.neg (by omega) (Ev.now _))
    · intro i r hi _ h
      refine Ev.step (fun _ => laws_eqOpS.l0.eq_2 ..) ?_
      rw [rdO_n, w64s (n := l.length) (by omega) (by omega)]
      exact Ev.pos (by omega) (Ev.pos (by omega) (Ev.pos (by omega) ((laws_eqOp_same _ _ (by have := fitO_at hf hi; omega)).bind (Ev.pos rfl h))))
    · intro i hi hp
      simp at hp
  exact this.to (by rw [List.all_eq_true]; intro x _; rfl)
theorem laws_eqAlgebra_same (s : Int) (l : List IOp) (hf : fitO l) : Ev (fun k => laws_eqAlgebra.f k s l s l) true := by
  unfold laws_eqAlgebra.f
  exact Ev.pos rfl ((laws_eqOpS_same l hf).bind (Ev.pos rfl (Ev.now _)))
theorem conv_fit (l : List LOp) (hl : l.length ≤ 8796093022208) (hg : ∀ x ∈ l, x.f1.length ≤ 1048576) : fitO (conv l) := by
  refine ⟨by rw [conv_length]; exact hl, fun x hx => ?_⟩
  obtain ⟨y, hy, rfl⟩ := List.mem_map.1 hx
  exact hg y hy
theorem range_at {N i : Nat} (h : i < N) : (List.range N).getD i 0 = i := by simp [List.getD, h]
theorem impl_sameList_ev (a b : List Int) (ha : a.length ≤ 8796093022208) : Ev (fun k => impl_sameList.f k a b) (decide (a = b)) := by
  unfold impl_sameList.f
  refine Ev.ite (fun h => ?_) (fun h => (Ev.now _).to (by rw [eq_comm, decide_eq_false_iff_not]; intro e; exact h (by rw [e])))
  have hl : a.length = b.length := by omega
  have key : Ev (fun k => impl_sameList.l0 k b a (a.length : Int) ((0 : Nat) : Int)) (((List.range a.length).drop 0).all fun i => decide (gd a i = gd b i)) := by
    refine all_loop (List.range a.length) 0 (fun i => decide (gd a i = gd b i)) (fun k i => impl_sameList.l0 k b a (a.length : Int) i) ?_ ?_ ?_ a.length 0 (by simp)
    · rw [List.length_range]
      exact Ev.step (fun _ => impl_sameList.l0.eq_2 ..) (Ev.neg (by omega) (Ev.now _))
    · intro i r hi hp h
      rw [List.length_range] at hi
      rw [range_at hi] at hp
      refine Ev.step (fun _ => impl_sameList.l0.eq_2 ..) ?_
      rw [rdn, rdn, w64s (n := a.length) (by omega) (by omega)]
      exact Ev.pos (by omega) (Ev.pos (by omega) (Ev.pos (by omega) (Ev.pos (by omega) (Ev.pos (of_decide_eq_true hp).symm h))))
    · intro i hi hp
      rw [List.length_range] at hi
      rw [range_at hi] at hp
      refine Ev.step (fun _ => impl_sameList.l0.eq_2 ..) ?_
      rw [rdn, rdn]
      exact Ev.pos (by omega) (Ev.pos (by omega) (Ev.pos (by omega) (Ev.pos (by omega) (Ev.neg (fun e => of_decide_eq_false hp e.symm) (Ev.now _)))))
  refine key.to ?_
  rw [Bool.eq_iff_iff, decide_eq_true_iff, List.drop_zero, List.all_eq_true]
  constructor
  · intro h
    exact ext_gd hl (fun i hi => of_decide_eq_true (h i (List.mem_range.2 hi)))
  · intro h i _
    rw [h, decide_eq_true rfl]
theorem spec_l1Same_ev (a b : List Int) (ha : a.length ≤ 8796093022208) : Ev (fun k => spec_l1Same.f k a b) (decide (a = b)) := by
  unfold spec_l1Same.f
  refine Ev.ite (fun h => ?_) (fun h => (Ev.now _).to (by rw [eq_comm, decide_eq_false_iff_not]; intro e; exact h (by rw [e])))
  have hl : a.length = b.length := by omega
  have key : Ev (fun k => spec_l1Same.l0 k a b ((0 : Nat) : Int)) (((List.range a.length).drop 0).all fun i => decide (gd a i = gd b i)) := by
    refine all_loop (List.range a.length) 0 (fun i => decide (gd a i = gd b i)) (fun k i => spec_l1Same.l0 k a b i) ?_ ?_ ?_ a.length 0 (by simp)
    · rw [List.length_range]
      exact Ev.step (fun _ => spec_l1Same.l0.eq_2 ..) (Ev.neg (by omega) (Ev.now _))
    · intro i r hi hp h
      rw [List.length_range] at hi
      rw [range_at hi] at hp
      refine Ev.step (fun _ => spec_l1Same.l0.eq_2 ..) ?_
      rw [rdn, rdn, w64s (n := a.length) (by omega) (by omega)]
      exact Ev.pos (by omega) (Ev.pos (by omega) (Ev.pos (by omega) (Ev.pos (of_decide_eq_true hp) h)))
    · intro i hi hp
      rw [List.length_range] at hi
      rw [range_at hi] at hp
      refine Ev.step (fun _ => spec_l1Same.l0.eq_2 ..) ?_
      rw [rdn, rdn]
      exact Ev.pos (by omega) (Ev.pos (by omega) (Ev.pos (by omega) (Ev.neg (of_decide_eq_false hp) (Ev.now _))))
  refine key.to ?_
  rw [Bool.eq_iff_iff, decide_eq_true_iff, List.drop_zero, List.all_eq_true]
  constructor
  · intro h
    exact ext_gd hl (fun i hi => of_decide_eq_true (h i (List.mem_range.2 hi)))
  · intro h i _
    rw [h, decide_eq_true rfl]
theorem powI_nat (n : Int) (k : Nat) : powI n (k : Int) = n ^ k := by simp [powI]
theorem rdi (l : List Int) {i : Int} (h : 0 ≤ i) : rd l i = gd l i.toNat := by
  obtain ⟨j, rfl⟩ : ∃ j : Nat, i = (j : Int) := ⟨i.toNat, by omega⟩
  rw [rdn, Int.toNat_natCast]
def typ (ops : List IOp) : List Int := ops.map fun x => x.f0
def twoB (n : Int) (A : List IOp) (m : Int) (B : List IOp) : Bool := algB n A && (algB m B && decide (typ A = typ B))
theorem typ_length (ops : List IOp) : (typ ops).length = ops.length := by simp [typ]
theorem impl_typeOf_ev (n : Int) (ops : List IOp) (hl : ops.length ≤ 8796093022208) : Ev (fun k => impl_typeOf.f k n ops) (typ ops) := by
  unfold impl_typeOf.f
  refine map_loop ops z87 (fun x => x.f0) (fun k out i => impl_typeOf.l0 k out ops (ops.length : Int) i) (typ ops) ?_ ?_ ops.length 0 (by omega)
  · exact Ev.step (fun _ => impl_typeOf.l0.eq_2 ..) (Ev.neg (by omega) (Ev.now _))
  · intro i out hi ho h
    refine Ev.step (fun _ => impl_typeOf.l0.eq_2 ..) ?_
    rw [rdO_n, w64s (n := ops.length) (by omega) (by omega)]
    exact Ev.pos (by omega) (Ev.pos (by omega) (Ev.pos (by omega) (Ev.pos (by omega) h)))
theorem spec_l2Type_ev (n : Int) (ops : List IOp) (hl : ops.length ≤ 8796093022208) : Ev (fun k => spec_l2Type.f k n ops) (typ ops) := by
  unfold spec_l2Type.f
  refine map_loop ops z87 (fun x => x.f0) (fun k out i => spec_l2Type.l0 k out i n ops) (typ ops) ?_ ?_ ops.length 0 (by omega)
  · exact Ev.step (fun _ => spec_l2Type.l0.eq_2 ..) (Ev.neg (by omega) (Ev.now _))
  · intro i out hi ho h
    refine Ev.step (fun _ => spec_l2Type.l0.eq_2 ..) ?_
    rw [rdO_n, w64s (n := ops.length) (by omega) (by omega)]
    exact Ev.pos (by omega) (Ev.pos (by omega) (Ev.pos (by omega) h))
theorem impl_alike_ev (n m : Int) (A B : List IOp) (hA : fitO A) (hB : fitO B) (ha : algB n A = true) (hb : algB m B = true) : Ev (fun k => impl_alike.f k n A m B) (decide (typ A = typ B)) := by
  unfold impl_alike.f
  have h1 := impl_IsAlgebra_ev n A hA
  have h2 := impl_IsAlgebra_ev m B hB
  rw [ha] at h1
  rw [hb] at h2
  refine (?_ : Ev (fun k => impl_SameType.f k n A m B) (decide (typ A = typ B), true)).bind (Ev.pos rfl (Ev.now _))
  unfold impl_SameType.f
  exact h1.bind (Ev.pos rfl (h2.bind (Ev.step (fun _ => impl_SameType.j0.eq_2 ..) (Ev.neg (by simp) ((impl_typeOf_ev n A hA.1).bind ((impl_typeOf_ev m B hB.1).bind ((impl_sameList_ev _ _ (by rw [typ_length]; exact hA.1)).bind (Ev.now _))))))))
theorem impl_areAlike_ev (n m : Int) (A B : List IOp) (hA : fitO A) (hB : fitO B) : Ev (fun k => impl_areAlike.f k n A m B) (twoB n A m B) := by
  unfold impl_areAlike.f twoB
  refine (impl_IsAlgebra_ev n A hA).bind (Ev.ite (fun h => ?_) (fun h => (Ev.now _).to (by simp [h])))
  refine (impl_IsAlgebra_ev m B hB).bind (Ev.ite (fun h' => ?_) (fun h' => (Ev.now _).to (by simp [h'])))
  refine (impl_alike_ev n m A B hA hB h h').bind ((Ev.now _).to (by simp [h, h']))
theorem spec_l7Two_ev (n m : Int) (A B : List IOp) (hA : fitO A) (hB : fitO B) : Ev (fun k => spec_l7Two.f k n A m B) (twoB n A m B) := by
  unfold spec_l7Two.f twoB
  refine (spec_l2Good_ev n A hA).bind (Ev.ite (fun h => ?_) (fun h => (Ev.now _).to (by simp [h])))
  refine (spec_l2Good_ev m B hB).bind (Ev.ite (fun h' => ?_) (fun h' => (Ev.now _).to (by simp [h'])))
  refine (?_ : Ev (fun k => spec_l2Same.f k n A m B) (decide (typ A = typ B))).bind ((Ev.now _).to (by simp [h, h']))
  unfold spec_l2Same.f
  exact (spec_l2Type_ev n A hA.1).bind ((spec_l2Type_ev m B hB.1).bind ((spec_l1Same_ev _ _ (by rw [typ_length]; exact hA.1)).bind (Ev.now _)))
theorem typ_at {A B : List IOp} (h : typ A = typ B) : A.length = B.length ∧ ∀ k, k < A.length → (B.getD k z87).f0 = (A.getD k z87).f0 := by
  have hl : A.length = B.length := by have := congrArg List.length h; simpa [typ] using this
  refine ⟨hl, fun k hk => ?_⟩
  have := congrArg (fun l => l[k]?) h
  simp only [typ, List.getElem?_map, List.getElem?_eq_getElem hk, List.getElem?_eq_getElem (show k < B.length by omega), Option.map_some, Option.some.injEq] at this
  simp [List.getD, hk, show k < B.length by omega, this]
theorem two_of {n m : Int} {A B : List IOp} (h : twoB n A m B = true) : algB n A = true ∧ algB m B = true ∧ A.length = B.length ∧ ∀ k, k < A.length → (B.getD k z87).f0 = (A.getD k z87).f0 := by
  simp only [twoB, Bool.and_eq_true, decide_eq_true_eq] at h
  exact ⟨h.1, h.2.1, typ_at h.2.2⟩
theorem markIntS_loop (l : List Int) (a : Int) (ha : 0 ≤ a) (hb : a + l.length ≤ 4611686018427387904) : ∀ (d i : Nat) (x : List Int), i + d = l.length → x.length = l.length → (∀ j, j < i → gd x j = a + j) → Ev (fun k => laws_markIntS.l0 k x (a + i) (i : Int)) (a + l.length, asc l.length a) := by
  intro d
  induction d with
  | zero =>
    intro i x hi hx h
    refine Ev.step (fun _ => laws_markIntS.l0.eq_2 ..) ?_
    refine Ev.neg (by omega) ?_
    have : x = asc l.length a := by
      apply List.ext_getElem (by simp [asc_length, hx])
      intro j h1 h2
      have e := h j (by omega)
      rw [← gd_lt h1, ← gd_lt h2, e, asc_at a (by omega)]
    subst this
    have : i = l.length := by omega
    subst this
    exact Ev.now _
  | succ d ih =>
    intro i x hi hx h
    refine Ev.step (fun _ => laws_markIntS.l0.eq_2 ..) ?_
    refine Ev.pos (by omega) ?_
    refine Ev.pos (by omega) ?_
    rw [w64s (n := l.length) (by omega) (by omega), w64 (by omega) (by omega), Int.toNat_natCast, show a + (i : Int) + 1 = a + ((i + 1 : Nat) : Int) by omega]
    refine ih (i + 1) _ (by omega) (by simpa using hx) ?_
    intro j hj
    by_cases e : j = i
    · subst e
      simp [gd, List.getD, show j < x.length by omega]
    · have := h j (by omega)
      simp only [gd, List.getD] at this ⊢
      rw [List.getElem?_set_ne (by omega)]
      exact this
theorem markIntS_ev (l : List Int) (a : Int) (ha : 0 ≤ a) (hb : a + l.length ≤ 4611686018427387904) : Ev (fun k => laws_markIntS.f k l a) (a + l.length, asc l.length a) := by
  unfold laws_markIntS.f
  have := markIntS_loop l a ha hb l.length 0 l (by omega) rfl (fun j hj => by omega)
  simpa using this
theorem heldIntS_loop (n : Nat) (a : Int) (ha : 0 ≤ a) (hb : a + n ≤ 4611686018427387904) : ∀ (d i : Nat), i + d = n → Ev (fun k => laws_heldIntS.l0 k (asc n a) (a + i) (i : Int)) (a + n) := by
  intro d
  induction d with
  | zero =>
    intro i hi
    refine Ev.step (fun _ => laws_heldIntS.l0.eq_2 ..) ?_
    refine Ev.neg (by rw [asc_length]; omega) ?_
    have : i = n := by omega
    subst this
    exact Ev.now _
  | succ d ih =>
    intro i hi
    refine Ev.step (fun _ => laws_heldIntS.l0.eq_2 ..) ?_
    refine Ev.pos (by rw [asc_length]; omega) ?_
    refine Ev.pos (by omega) ?_
    refine Ev.pos (by rw [rdn, asc_at a (by omega)]) ?_
    rw [w64s (n := n) (by omega) (by omega), w64 (by omega) (by omega), show a + (i : Int) + 1 = a + ((i + 1 : Nat) : Int) by omega]
    exact ih (i + 1) (by omega)
theorem heldIntS_ev (n : Nat) (a : Int) (ha : 0 ≤ a) (hb : a + n ≤ 4611686018427387904) : Ev (fun k => laws_heldIntS.f k (asc n a) a) (a + n) := by
  unfold laws_heldIntS.f
  have := heldIntS_loop n a ha hb n 0 (by omega)
  simpa using this
theorem totO_bound (xs : List IOp) (n m : Nat) (h : xs.length ≤ n) (h' : ∀ x ∈ xs, x.f1.length ≤ m) : totO xs ≤ n * (m + 1) := by
  have key : ∀ xs : List IOp, (∀ x ∈ xs, x.f1.length ≤ m) → totO xs ≤ xs.length * (m + 1) := by
    intro xs
    induction xs with
    | nil => intro _; simp [totO]
    | cons x xs ih =>
      intro h
      have h1 := h x (by simp)
      have h2 := ih (fun y hy => h y (by simp [hy]))
      simp only [totO, List.map_cons, List.sum_cons, List.length_cons, Nat.succ_mul] at h2 ⊢
      omega
  exact Nat.le_trans (key xs h') (Nat.mul_le_mul_right (m + 1) h)
theorem size_gives {l : List LOp} {t : Int} (h : 0 ≤ t → (l.length : Int) ≤ 1048576 ∧ ∀ x ∈ l, (x.f1.length : Int) ≤ 1048576) (ht : 0 ≤ t) :
    l.length ≤ 8796093022208 ∧ (∀ x ∈ l, x.f1.length ≤ 35184372088832) ∧ fitO (conv l) ∧ 1 + (totO (conv l) : Int) ≤ 4611686018427387904 := by
  have h1 := h ht
  have hl : l.length ≤ 1048576 := by omega
  have hx : ∀ x ∈ l, x.f1.length ≤ 1048576 := fun x hx => by have := h1.2 x hx; omega
  have hf := conv_fit l (by omega) hx
  have := totO_bound (conv l) 1048576 1048576 (by rw [conv_length]; exact hl) hf.2
  exact ⟨by omega, fun x h => by have := hx x h; omega, hf, by omega⟩
def divs (m : Int) (l : List Int) : List Int := l.map fun x => x / m
def mods (m : Int) (l : List Int) : List Int := l.map fun x => x % m
def prodT (n m : Int) (ar : Nat) (ta tb : List Int) : List Int :=
  (List.range ((n * m) ^ ar).toNat).map fun i : Nat => gd ta (valM n (divs m (argsM (n * m) ar (i : Int)))).toNat * m + gd tb (valM m (mods m (argsM (n * m) ar (i : Int)))).toNat
def prodO (n : Int) (A : List IOp) (m : Int) (B : List IOp) : List IOp :=
  (List.range A.length).map fun k => ⟨(A.getD k z87).f0, prodT n m (A.getD k z87).f0.toNat (A.getD k z87).f1 (B.getD k z87).f1⟩
theorem divs_length (m : Int) (l : List Int) : (divs m l).length = l.length := by simp [divs]
theorem mods_length (m : Int) (l : List Int) : (mods m l).length = l.length := by simp [mods]
theorem div_lt {n m x : Int} (hm : 1 ≤ m) (h : x < n * m) : x / m < n := Int.ediv_lt_of_lt_mul (by omega) h
theorem divs_in {n m : Int} (hm : 1 ≤ m) {l : List Int} (h : ∀ x ∈ l, 0 ≤ x ∧ x < n * m) : ∀ x ∈ divs m l, 0 ≤ x ∧ x < n := by
  intro x hx
  obtain ⟨y, hy, rfl⟩ := List.mem_map.1 hx
  exact ⟨Int.ediv_nonneg (h y hy).1 (by omega), div_lt hm (h y hy).2⟩
theorem mods_in {m : Int} (hm : 1 ≤ m) (l : List Int) : ∀ x ∈ mods m l, 0 ≤ x ∧ x < m := by
  intro x hx
  obtain ⟨y, hy, rfl⟩ := List.mem_map.1 hx
  exact ⟨Int.emod_nonneg _ (by omega), Int.emod_lt_of_pos _ (by omega)⟩
structure ProdOp (n m : Int) (A B : List IOp) (k ar : Nat) : Prop where
  a0 : (A.getD k z87).f0 = ar
  le : ar ≤ 3
  la : n ^ ar = ((A.getD k z87).f1.length : Int)
  lb : m ^ ar = ((B.getD k z87).f1.length : Int)
  ina : ∀ x ∈ (A.getD k z87).f1, 0 ≤ x ∧ x < n
  inb : ∀ x ∈ (B.getD k z87).f1, 0 ≤ x ∧ x < m
theorem prod_op {n m : Int} {A B : List IOp} (h2 : twoB n A m B = true) {k : Nat} (hk : k < A.length) : ∃ ar, ProdOp n m A B k ar := by
  obtain ⟨ha, hb, hl, ht⟩ := two_of h2
  obtain ⟨ar, e1, e2, e3, e4⟩ := opB_of (algB_op ha hk)
  obtain ⟨br, g1, g2, g3, g4⟩ := opB_of (algB_op hb (i := k) (by omega))
  have : br = ar := by have := ht k hk; omega
  subst this
  exact ⟨br, e1, e2, e3.symm, g3.symm, e4, g4⟩
structure ProdSize (n m : Int) : Prop where
  n1 : 1 ≤ n
  n8 : n ≤ 8
  m1 : 1 ≤ m
  m8 : m ≤ 8
  p1 : 1 ≤ n * m
  p8 : n * m ≤ 8
theorem prod_size {n m : Int} (hn : 1 ≤ n ∧ n ≤ 8) (hm : 1 ≤ m ∧ m ≤ 8) (h : n * m ≤ 8) : ProdSize n m :=
  ⟨hn.1, hn.2, hm.1, hm.2, Int.mul_pos (by omega) (by omega), h⟩
structure ProdAt (n m : Int) (A B : List IOp) (k ar i : Nat) : Prop where
  d1 : ∀ x ∈ divs m (argsM (n * m) ar (i : Int)), 0 ≤ x ∧ x < n
  d2 : ∀ x ∈ mods m (argsM (n * m) ar (i : Int)), 0 ≤ x ∧ x < m
  d3 : ∀ x ∈ argsM (n * m) ar (i : Int), 0 ≤ x ∧ x < n * m
  v1 : 0 ≤ valM n (divs m (argsM (n * m) ar (i : Int)))
  v2 : valM n (divs m (argsM (n * m) ar (i : Int))) < ((A.getD k z87).f1.length : Int)
  v3 : 0 ≤ valM m (mods m (argsM (n * m) ar (i : Int)))
  v4 : valM m (mods m (argsM (n * m) ar (i : Int))) < ((B.getD k z87).f1.length : Int)
  t1 : 0 ≤ gd (A.getD k z87).f1 (valM n (divs m (argsM (n * m) ar (i : Int)))).toNat ∧ gd (A.getD k z87).f1 (valM n (divs m (argsM (n * m) ar (i : Int)))).toNat < n
  t2 : 0 ≤ gd (B.getD k z87).f1 (valM m (mods m (argsM (n * m) ar (i : Int)))).toNat ∧ gd (B.getD k z87).f1 (valM m (mods m (argsM (n * m) ar (i : Int)))).toNat < m
theorem prod_at {n m : Int} {A B : List IOp} {k ar : Nat} (hs : ProdSize n m) (h : ProdOp n m A B k ar) (i : Nat) : ProdAt n m A B k ar i := by
  have a3 := argsM_in (n := n * m) hs.p1 ar (i : Int) (by omega)
  have a1 := divs_in (n := n) hs.m1 a3
  have a2 := mods_in hs.m1 (argsM (n * m) ar (i : Int))
  have b1 := valM_in hs.n1 _ a1
  have b2 := valM_in hs.m1 _ a2
  rw [divs_length, argsM_length, h.la] at b1
  rw [mods_length, argsM_length, h.lb] at b2
  refine ⟨a1, a2, a3, b1.1, b1.2, b2.1, b2.2, ?_, ?_⟩
  · refine h.ina _ ?_
    rw [gd_lt (by omega)]
    exact List.getElem_mem _
  · refine h.inb _ ?_
    rw [gd_lt (by omega)]
    exact List.getElem_mem _
theorem prod_val {n m a b : Int} (hs : ProdSize n m) (ha : 0 ≤ a ∧ a < n) (hb : 0 ≤ b ∧ b < m) : wrap64 (wrap64 (a * m) + b) = a * m + b ∧ 0 ≤ a * m + b ∧ a * m + b < n * m := by
  obtain ⟨n1, n8, m1, m8, p1, p8⟩ := hs
  have h1 : 0 ≤ a * m := Int.mul_nonneg ha.1 (by omega)
  have h2 : (a + 1) * m ≤ n * m := Int.mul_le_mul_of_nonneg_right (by omega) (by omega)
  rw [Int.add_mul] at h2
  rw [w64 (x := a * m) (by omega) (by omega), w64 (by omega) (by omega)]
  omega
theorem gd_divs {m : Int} {l : List Int} {i : Nat} (h : i < l.length) : gd (divs m l) i = gd l i / m := by
  rw [gd_lt h, gd_lt (by rw [divs_length]; exact h)]
  simp [divs]
theorem gd_mods {m : Int} {l : List Int} {i : Nat} (h : i < l.length) : gd (mods m l) i = gd l i % m := by
  rw [gd_lt h, gd_lt (by rw [mods_length]; exact h)]
  simp [mods]
theorem impl_product_ev (n m : Int) (A B : List IOp) (h2 : twoB n A m B = true) (h8 : n * m ≤ 8) : Ev (fun g => impl_product.f g n A m B) (n * m, prodO n A m B) := by
  obtain ⟨ha, hb, hl, ht⟩ := two_of h2
  have hs := prod_size (algB_size ha) (algB_size hb) h8
  have hfew := algB_few ha
  obtain ⟨n1, n8, m1, m8, p1, p8⟩ := hs
  have hs : ProdSize n m := ⟨n1, n8, m1, m8, p1, p8⟩
  unfold impl_product.f
  rw [w64 (x := n * m) (by omega) (by omega)]
  refine map_loop (List.range A.length) 0 (fun k => (⟨(A.getD k z87).f0, prodT n m (A.getD k z87).f0.toNat (A.getD k z87).f1 (B.getD k z87).f1⟩ : IOp)) (fun g out k => impl_product.l0 g A (A.length : Int) k n A m B (n * m) out) (n * m, prodO n A m B) ?_ ?_ A.length 0 (by simp)
  · rw [List.length_range]
    exact Ev.step (fun _ => impl_product.l0.eq_2 ..) (Ev.neg (by omega) (Ev.now _))
  · intro k out hk ho hh
    rw [List.length_range] at hk
    rw [range_at hk] at hh
    obtain ⟨ar, hp⟩ := prod_op h2 hk
    rw [hp.a0, Int.toNat_natCast] at hh
    have h512 := pow_le3 (n := n * m) ⟨p1, p8⟩ hp.le
    have hN : 0 < (n * m) ^ ar := Int.pow_pos (by omega)
    have har := hp.le
    refine Ev.step (fun _ => impl_product.l0.eq_2 ..) (Ev.pos (by omega) (Ev.pos (by omega) (Ev.pos (by omega) ?_)))
    rw [rdO_n, hp.a0]
    refine map_loop (List.range ((n * m) ^ ar).toNat) 0 (fun i : Nat => gd (A.getD k z87).f1 (valM n (divs m (argsM (n * m) ar (i : Int)))).toNat * m + gd (B.getD k z87).f1 (valM m (mods m (argsM (n * m) ar (i : Int)))).toNat)
      (fun g tb i => impl_product.l1 g (k : Int) i A (A.length : Int) (k : Int) n A m B (n * m) out (ar : Int) (A.getD k z87).f1 (ar : Int) tb) _ ?_ ?_ ((n * m) ^ ar).toNat 0 (by simp)
    · rw [List.length_range]
      refine Ev.step (fun _ => impl_product.l1.eq_2 ..) ((impl_power_ev (n * m) ar ⟨p1, p8⟩ ⟨by omega, by omega⟩).bind ?_)
      rw [powI_nat, w64s (i := k) (n := A.length) (by omega) (by omega)]
      exact Ev.neg (by omega) (Ev.pos (by omega) hh)
    · intro i tb hi hto hh2
      rw [List.length_range] at hi
      rw [range_at hi] at hh2
      have hq := prod_at hs hp i
      refine Ev.step (fun _ => impl_product.l1.eq_2 ..) ((impl_power_ev (n * m) ar ⟨p1, p8⟩ ⟨by omega, by omega⟩).bind ?_)
      rw [powI_nat]
      refine Ev.pos (by omega) ((impl_argsAt_ev (n * m) ar i p1 hp.le (by omega) (by omega)).bind ?_)
      rw [argsM_length]
      have inner : ∀ (d j : Nat), j + d = ar → Ev (fun g => impl_product.l2 g (k : Int) (i : Int) (valM n ((divs m (argsM (n * m) ar (i : Int))).take j)) (valM m ((mods m (argsM (n * m) ar (i : Int))).take j)) A (A.length : Int) (k : Int) (argsM (n * m) ar (i : Int)) (ar : Int) (j : Int) n A m B (n * m) out (ar : Int) (A.getD k z87).f1 (ar : Int) tb) (n * m, prodO n A m B) := by
        intro d
        induction d with
        | zero =>
          intro j hj
          refine Ev.step (fun _ => impl_product.l2.eq_2 ..) (Ev.neg (by omega) ?_)
          rw [List.take_of_length_le (by rw [divs_length, argsM_length]; omega), List.take_of_length_le (by rw [mods_length, argsM_length]; omega), rdO_n, rdi _ hq.v1, rdi _ hq.v3, (prod_val hs hq.t1 hq.t2).1, w64s (i := i) (n := 1000) (by omega) (by omega)]
          exact Ev.pos hq.v1 (Ev.pos hq.v2 (Ev.pos (by omega) (Ev.pos (by omega) (Ev.pos hq.v3 (Ev.pos hq.v4 (Ev.pos (by omega) hh2))))))
        | succ d ih =>
          intro j hj
          have hx := hq.d3 (gd (argsM (n * m) ar (i : Int)) j) (by rw [gd_lt (by rw [argsM_length]; omega)]; exact List.getElem_mem _)
          have hv1 := valM_in n1 ((divs m (argsM (n * m) ar (i : Int))).take j) (fun x h => hq.d1 x (List.mem_of_mem_take h))
          have hv2 := valM_in m1 ((mods m (argsM (n * m) ar (i : Int))).take j) (fun x h => hq.d2 x (List.mem_of_mem_take h))
          have w1 := pow_le3 ⟨n1, n8⟩ (k := ((divs m (argsM (n * m) ar (i : Int))).take j).length) (by simp [divs, argsM_length]; omega)
          have w2 := pow_le3 ⟨m1, m8⟩ (k := ((mods m (argsM (n * m) ar (i : Int))).take j).length) (by simp [mods, argsM_length]; omega)
          obtain ⟨e1, e2, e3⟩ := div_in (i := gd (argsM (n * m) ar (i : Int)) j) (n := m) hx.1 (by omega) m1
          refine Ev.step (fun _ => impl_product.l2.eq_2 ..) (Ev.pos (by omega) (Ev.pos (by omega) (Ev.pos (by rw [argsM_length]; omega) (Ev.neg (by omega) ?_))))
          rw [rdn, e1, Int.tmod_eq_emod_of_nonneg hx.1, grow_in ⟨n1, n8⟩ ⟨hv1.1, by omega⟩ ⟨e2, div_lt m1 hx.2⟩, grow_in ⟨m1, m8⟩ ⟨hv2.1, by omega⟩ ⟨Int.emod_nonneg _ (by omega), Int.emod_lt_of_pos _ (by omega)⟩, w64s (i := j) (n := 1000) (by omega) (by omega),
            ← valM_snoc, ← valM_snoc, ← gd_divs (by rw [argsM_length]; omega), ← gd_mods (by rw [argsM_length]; omega), take_snoc _ (by rw [divs_length, argsM_length]; omega), take_snoc _ (by rw [mods_length, argsM_length]; omega)]
          exact ih (j + 1) (by omega)
      exact inner ar 0 (by omega)
def prodM (n : Int) (A : List IOp) (m : Int) (B : List IOp) : Int × List IOp × Bool := if twoB n A m B = true ∧ n * m ≤ 8 then (n * m, prodO n A m B, true) else (0, [], false)
theorem two_small {n m : Int} {A B : List IOp} (h : twoB n A m B = true) : (1 ≤ n ∧ n ≤ 8) ∧ (1 ≤ m ∧ m ≤ 8) ∧ 1 ≤ n * m ∧ n * m ≤ 64 := by
  obtain ⟨ha, hb, _, _⟩ := two_of h
  have hn := algB_size ha
  have hm := algB_size hb
  have h1 : 0 < n * m := Int.mul_pos (by omega) (by omega)
  have h2 : n * m ≤ 8 * 8 := Int.mul_le_mul hn.2 hm.2 (by omega) (by omega)
  exact ⟨hn, hm, by omega, by omega⟩
theorem impl_ProductOf_ev (n m : Int) (A B : List IOp) (hA : fitO A) (hB : fitO B) : Ev (fun k => impl_ProductOf.f k n A m B) (prodM n A m B) := by
  unfold impl_ProductOf.f prodM
  refine (impl_areAlike_ev n m A B hA hB).bind (Ev.ite (fun h => ?_) (fun h => (Ev.now _).to (by rw [if_neg (fun h' => h h'.1)])))
  obtain ⟨_, _, h1, h2⟩ := two_small h
  rw [w64 (by omega) (by omega)]
  refine Ev.ite (fun h8 => (Ev.now _).to (by rw [if_neg (by omega)])) (fun h8 => ?_)
  rw [if_pos ⟨h, by omega⟩]
  exact (impl_product_ev n m A B h (by omega)).bind (Ev.now _)
def facF (m a : Int) (i : Nat) : Int := if a = 1 then (i : Int) % m else (i : Int) / m
def facM (n : Int) (A : List IOp) (m : Int) (B : List IOp) (a : Int) : List Int × Bool :=
  if (twoB n A m B = true ∧ n * m ≤ 8) ∧ 0 ≤ a ∧ a ≤ 1 then ((List.range (n * m).toNat).map (facF m a), true) else ([], false)
theorem impl_FactorOfProduct_ev (n m : Int) (A B : List IOp) (a : Int) (hA : fitO A) (hB : fitO B) : Ev (fun k => impl_FactorOfProduct.f k n A m B a) (facM n A m B a) := by
  unfold impl_FactorOfProduct.f facM
  have no : ∀ (b : Bool) (x : Int) (y : List IOp), b = true → ¬ ((twoB n A m B = true ∧ n * m ≤ 8) ∧ 0 ≤ a ∧ a ≤ 1) → Ev (fun k => impl_FactorOfProduct.j0 k a b m B x y) (if (twoB n A m B = true ∧ n * m ≤ 8) ∧ 0 ≤ a ∧ a ≤ 1 then ((List.range (n * m).toNat).map (facF m a), true) else ([], false)) := fun b x y hb h => by
    rw [if_neg h]
    exact Ev.step (fun _ => impl_FactorOfProduct.j0.eq_2 ..) (Ev.pos hb (Ev.now _))
  refine (impl_ProductOf_ev n m A B hA hB).bind ?_
  by_cases h : twoB n A m B = true ∧ n * m ≤ 8
  · obtain ⟨hn, hm, h1, h2⟩ := two_small h.1
    have hp : prodM n A m B = (n * m, prodO n A m B, true) := if_pos h
    rw [hp]
    refine Ev.pos rfl (Ev.ite (fun h3 => no _ _ _ rfl (fun h' => by omega)) (fun h3 => ?_))
    by_cases h4 : a ≤ 1
    · rw [if_pos ⟨h, by omega, h4⟩]
      refine Ev.step (fun _ => impl_FactorOfProduct.j0.eq_2 ..) (Ev.neg (by simp; omega) (Ev.pos (by omega) (Ev.pos (by omega) (Ev.bind1 ?_))))
      rw [List.length_replicate, show (((n * m).toNat : Nat) : Int) = n * m by omega]
      refine set_loop (List.range (n * m).toNat) 0 (facF m a) (fun k out i => impl_FactorOfProduct.l0 k a out (n * m) i m B) _ ?_ ?_ (n * m).toNat 0 _ (by simp) (by simp) (fun j hj => by omega)
      · rw [List.length_range]
        exact Ev.step (fun _ => impl_FactorOfProduct.l0.eq_2 ..) (Ev.neg (by omega) (Ev.now _))
      · intro i out hi ho hh
        rw [List.length_range] at hi ho
        rw [range_at hi] at hh
        obtain ⟨e1, e2, e3⟩ := div_in (i := (i : Int)) (n := m) (by omega) (by omega) hm.1
        refine Ev.step (fun _ => impl_FactorOfProduct.l0.eq_2 ..) (Ev.pos (by omega) (Ev.neg (by omega) (Ev.pos (by omega) (Ev.pos (by omega) (Ev.bind1 ?_)))))
        rw [e1, Int.tmod_eq_emod_of_nonneg (by omega), Int.toNat_natCast, w64s (i := i) (n := 1000) (by omega) (by omega), List.set_set]
        unfold facF at hh
        refine Ev.ite (fun h5 => ?_) (fun h5 => ?_)
        · rw [if_pos h5] at hh
          exact hh
        · rw [if_neg h5] at hh
          exact hh
    · exact no _ _ _ (decide_eq_true (by omega)) (fun h' => h4 h'.2.2)
  · have hp : prodM n A m B = (0, [], false) := if_neg h
    rw [hp]
    exact Ev.neg (by simp) (no _ _ _ rfl (fun h' => h h'.1))
theorem spec_FactorOfProduct_ev (n m : Int) (A B : List IOp) (a : Int) (hA : fitO A) (hB : fitO B) : Ev (fun k => spec_FactorOfProduct.f k n A m B a) (facM n A m B a) := by
  unfold spec_FactorOfProduct.f facM
  have no : ∀ (b : Bool), b = true → ¬ ((twoB n A m B = true ∧ n * m ≤ 8) ∧ 0 ≤ a ∧ a ≤ 1) → Ev (fun k => spec_FactorOfProduct.j0 k a [] b n A m B) (if (twoB n A m B = true ∧ n * m ≤ 8) ∧ 0 ≤ a ∧ a ≤ 1 then ((List.range (n * m).toNat).map (facF m a), true) else ([], false)) := fun b hb h => by
    rw [if_neg h]
    exact Ev.step (fun _ => spec_FactorOfProduct.j0.eq_2 ..) (Ev.pos hb (Ev.now _))
  refine Ev.bind1 ((spec_l7Two_ev n m A B hA hB).bind (Ev.ite (fun h => ?_) (fun h => no _ rfl (fun h' => h h'.1.1))))
  obtain ⟨hn, hm, h1, h2⟩ := two_small h
  rw [w64 (x := n * m) (by omega) (by omega), spec_l1In_eq]
  refine Ev.ite (fun h8 => no _ rfl (fun h' => by omega)) (fun h8 => Ev.bind1 ?_)
  by_cases h4 : 0 ≤ a ∧ a ≤ 1
  · rw [if_pos ⟨⟨h, by omega⟩, h4⟩]
    refine Ev.step (fun _ => spec_FactorOfProduct.j0.eq_2 ..) (Ev.neg (by simp; omega) ?_)
    refine map_loop (List.range (n * m).toNat) 0 (facF m a) (fun k out i => spec_FactorOfProduct.l0 k a out i n A m B) _ ?_ ?_ (n * m).toNat 0 (by simp)
    · rw [List.length_range]
      refine Ev.step (fun _ => spec_FactorOfProduct.l0.eq_2 ..) ?_
      rw [w64 (x := n * m) (by omega) (by omega)]
      exact Ev.neg (by omega) (Ev.now _)
    · intro i out hi ho hh
      rw [List.length_range] at hi
      rw [range_at hi] at hh
      obtain ⟨e1, e2, e3⟩ := div_in (i := (i : Int)) (n := m) (by omega) (by omega) hm.1
      refine Ev.step (fun _ => spec_FactorOfProduct.l0.eq_2 ..) ?_
      rw [w64 (x := n * m) (by omega) (by omega), e1, Int.tmod_eq_emod_of_nonneg (by omega), w64s (i := i) (n := 1000) (by omega) (by omega)]
      unfold facF at hh
      refine Ev.pos (by omega) (Ev.ite (fun h5 => Ev.neg (by omega) (Ev.pos (by omega) ?_)) (fun h5 => Ev.neg (by omega) (Ev.pos (by omega) ?_)))
      · rw [if_neg (by omega)] at hh
        exact hh
      · rw [if_pos (by omega)] at hh
        exact hh
  · exact no _ (by simp; omega) (fun h' => h4 h'.2)
theorem facM_length (n m : Int) (A B : List IOp) (a : Int) : (facM n A m B a).1.length ≤ 8 := by
  unfold facM
  split
  · simp
    omega
  · simp
theorem FnExactFactorOfProduct : Stmt.FnExactFactorOfProduct := by
  intro n A m B a _ hA gA _ hB gB _
  obtain ⟨t, h1, h2, h3, h4⟩ := laws_szAlgebra_ev n A 1048576 hA (fun x hx => (gA x hx).2.1) (by omega)
  by_cases ht : 0 ≤ t
  · obtain ⟨g1, g2, g3, g4⟩ := size_gives h4 ht
    obtain ⟨u, k1, k2, k3, k4⟩ := laws_szAlgebra_ev m B t hB (fun x hx => (gB x hx).2.1) ⟨ht, by omega⟩
    by_cases hu : 0 ≤ u
    · have k5 : 0 ≤ u → (B.length : Int) ≤ 1048576 ∧ ∀ x ∈ B, (x.f1.length : Int) ≤ 1048576 := fun h => ⟨by have := (k4 h).1; omega, fun x hx => by have := (k4 h).2 x hx; omega⟩
      obtain ⟨b1, b2, b3, b4⟩ := size_gives k5 hu
      have hd := facM_length n m (conv A) (conv B) a
      obtain ⟨k, e1, e1', e2, e3, e4, e5, e6, e7, e8, e9, e10⟩ := ((Evs.of h1).and ((Evs.of k1).and ((Evs.of (laws_toAlgebra_ev n A g1 g2)).and ((Evs.of (laws_toAlgebra_ev m B b1 b2)).and ((Evs.of (spec_FactorOfProduct_ev n m (conv A) (conv B) a g3 b3)).and ((Evs.of (impl_FactorOfProduct_ev n m (conv A) (conv B) a g3 b3)).and
        ((Evs.of (eqIntS_same (facM n (conv A) m (conv B) a).1 (by omega))).and ((Evs.of (laws_eqAlgebra_same n (conv A) g3)).and ((Evs.of (laws_eqAlgebra_same m (conv B) b3)).and
        ((Evs.of (markIntS_ev (facM n (conv A) m (conv B) a).1 1 (by omega) (by omega))).and (Evs.of (heldIntS_ev (facM n (conv A) m (conv B) a).1.length 1 (by omega) (by omega))))))))))))).ex
      have T1 := totO_bound (conv A) 1048576 1048576 (by rw [conv_length]; have := (h4 ht).1; omega) g3.2
      have T2 := totO_bound (conv B) 1048576 1048576 (by rw [conv_length]; have := (k5 hu).1; omega) b3.2
      exact ⟨k, t, e1, fun _ => ⟨u, e1', fun _ => ⟨n, conv A, m, conv B, (facM n (conv A) m (conv B) a).1, (facM n (conv A) m (conv B) a).2, e2, e3, e4, e5, e6, e7, e8, e9, e10, g4, by omega⟩⟩⟩
    · obtain ⟨k, e1, e2⟩ := ((Evs.of h1).and (Evs.of k1)).ex
      exact ⟨k, t, e1, fun _ => ⟨u, e2, fun h => absurd h hu⟩⟩
  · obtain ⟨k, hk⟩ := h1.rounds
    exact ⟨k, t, hk, fun h => absurd h ht⟩
end Go.Proofs.Ytijnfpfijgmopaa.Pure

namespace Go.Proofs.Ytijnfpfijgmopaa
open Go.RowKit Go.Proofs.YtijnfpfijgmopaaW.PrintWords Go.Proofs.YtijnfpfijgmopaaW.PrintLast Go.Proofs.YtijnfpfijgmopaaW.PrintMore Go.Proofs.Ytijnfpfijgmopaa.Live Go.Proofs.Ytijnfpfijgmopaa.Q
set_option linter.unusedVariables false
set_option linter.unusedSimpArgs false
set_option maxRecDepth 100000
set_option maxHeartbeats 8000000 in
theorem Walk.FnExactFactorOfProduct (a0 : Int) (A0 : Option Addr) (c0 : Nat) (l0 : List (Q.S109)) (a1 : Int) (A1 : Option Addr) (c1 : Nat) (l1 : List (Q.S109)) (a2 : Int) (W : World) (hr0 : Kd.C k109 W A0 l0.length l0) (hc0 : l0.length ≤ c0) (hr1 : Kd.C k109 W A1 l1.length l1) (hc1 : l1.length ≤ c1) (g0 : (Lit.int .i64 a0).wf = true) (hm0 : l0.length ≤ maxLen) (hg0 : ∀ x ∈ l0, (Lit.int .i64 x.f0).wf = true ∧ x.f1.length ≤ maxLen ∧ ∀ y_x ∈ x.f1, (Lit.int .i64 y_x).wf = true) (g1 : (Lit.int .i64 a1).wf = true) (hm1 : l1.length ≤ maxLen) (hg1 : ∀ x ∈ l1, (Lit.int .i64 x.f0).wf = true ∧ x.f1.length ≤ maxLen ∧ ∀ y_x ∈ x.f1, (Lit.int .i64 y_x).wf = true) (g2 : (Lit.int .i64 a2).wf = true) :
    Calls Try.prog 7 #[.agg #[.int .i64 a0, .slice A0 l0.length c0], .agg #[.int .i64 a1, .slice A1 l1.length c1], .int .i64 a2] W fun e w' => e = .returned (.bool true) ∧ Below W.heap.size W w' := by
  have P := fun (_ : True) => Pure.FnExactFactorOfProduct a0 l0 a1 l1 a2 g0 hm0 hg0 g1 hm1 hg1 g2
  have hu24 := Try.underlying24
  have hu30 := Try.underlying30
  have HR0 := Aside0.mk hr0
  have HC0 := Aside0.mk hc0
  have hm0_ : l0.length ≤ 9223372036854775807 := by unfold maxLen at hm0; omega
  have HR1 := Aside0.mk hr1
  have HC1 := Aside0.mk hc1
  have hm1_ : l1.length ≤ 9223372036854775807 := by unfold maxLen at hm1; omega
  clear hr0 hc0 hr1 hc1 g0 hm0 hg0 g1 hm1 hg1 g2
  obtain ⟨k, P⟩ := P trivial
  obtain ⟨t0, hF0, P⟩ := P
  have F0 := Aside0.mk hF0
  clear hF0
  have HP3 := Aside0.mk P
  clear P
  by_cases d3 : t0 < 0
  · have q3 : decide (t0 < 0) = true := decide_eq_true d3
    go_enter Try.func7, Try.ntmps7
    obtain ⟨lox1, hix1, HLx1⟩ := Live.make_box (Live.nil W) (.cells #[.int .i64 a0, .slice A0 l0.length c0] 24) (W.heap.size) (by simp)
    obtain ⟨lox2, hix2, HLx2⟩ := Live.make_box HLx1 (.cells #[.int .i64 a1, .slice A1 l1.length c1] 24) (W.heap.size + 1) (by simp)
    go_wp2_with fail
    (with_reducible refine (laws_szAlgebra.calls k a0 _ _ l0 1048576 t0 _ (Kd.C_below HR0.out (below_alloc (below_alloc (Below.refl _ _) _) _)) HC0.out F0.out).mono ?_)
    rintro e w3 ⟨rfl, hbw3⟩
    have HLw3 := Aside0.mk (HLx2.below hbw3)
    have HBw3 := Aside0.mk (below_step (below_alloc (below_alloc (Below.refl _ _) _) _) (hbw3))
    clear hbw3
    have hxb3_0_w3 : w3.cell? ⟨W.heap.size, 0, none⟩ = some (.int .i64 a0) := (blk_cell (HLw3.out.get 1 rfl).1 0).trans rfl
    have hxb3_1_w3 : w3.cell? ⟨W.heap.size, 1, none⟩ = some (.slice A0 l0.length c0) := (blk_cell (HLw3.out.get 1 rfl).1 1).trans rfl
    have hxb4_0_w3 : w3.cell? ⟨W.heap.size + 1, 0, none⟩ = some (.int .i64 a1) := (blk_cell (HLw3.out.get 0 rfl).1 0).trans rfl
    have hxb4_1_w3 : w3.cell? ⟨W.heap.size + 1, 1, none⟩ = some (.slice A1 l1.length c1) := (blk_cell (HLw3.out.get 0 rfl).1 1).trans rfl
    go_wp2
    go_ret
    exact ⟨rfl, HBw3.out⟩
  have q3 : decide (t0 < 0) = false := decide_eq_false d3
  have P := HP3.out (by omega)
  clear HP3
  obtain ⟨t1, hF1, P⟩ := P
  have F1 := Aside0.mk hF1
  clear hF1
  have HP5 := Aside0.mk P
  clear P
  by_cases d5 : t1 < 0
  · have q5 : decide (t1 < 0) = true := decide_eq_true d5
    go_enter Try.func7, Try.ntmps7
    obtain ⟨lox1, hix1, HLx1⟩ := Live.make_box (Live.nil W) (.cells #[.int .i64 a0, .slice A0 l0.length c0] 24) (W.heap.size) (by simp)
    obtain ⟨lox2, hix2, HLx2⟩ := Live.make_box HLx1 (.cells #[.int .i64 a1, .slice A1 l1.length c1] 24) (W.heap.size + 1) (by simp)
    go_wp2_with fail
    (with_reducible refine (laws_szAlgebra.calls k a0 _ _ l0 1048576 t0 _ (Kd.C_below HR0.out (below_alloc (below_alloc (Below.refl _ _) _) _)) HC0.out F0.out).mono ?_)
    rintro e w3 ⟨rfl, hbw3⟩
    have HLw3 := Aside0.mk (HLx2.below hbw3)
    have HBw3 := Aside0.mk (below_step (below_alloc (below_alloc (Below.refl _ _) _) _) (hbw3))
    clear hbw3
    have hxb3_0_w3 : w3.cell? ⟨W.heap.size, 0, none⟩ = some (.int .i64 a0) := (blk_cell (HLw3.out.get 1 rfl).1 0).trans rfl
    have hxb3_1_w3 : w3.cell? ⟨W.heap.size, 1, none⟩ = some (.slice A0 l0.length c0) := (blk_cell (HLw3.out.get 1 rfl).1 1).trans rfl
    have hxb4_0_w3 : w3.cell? ⟨W.heap.size + 1, 0, none⟩ = some (.int .i64 a1) := (blk_cell (HLw3.out.get 0 rfl).1 0).trans rfl
    have hxb4_1_w3 : w3.cell? ⟨W.heap.size + 1, 1, none⟩ = some (.slice A1 l1.length c1) := (blk_cell (HLw3.out.get 0 rfl).1 1).trans rfl
    go_wp2_with fail
    (with_reducible refine (laws_szAlgebra.calls k a1 _ _ l1 t0 t1 _ (Kd.C_below HR1.out (HBw3.out)) HC1.out F1.out).mono ?_)
    rintro e w4 ⟨rfl, hbw4⟩
    have HLw4 := Aside0.mk (HLw3.out.below hbw4)
    have HBw4 := Aside0.mk (below_step (HBw3.out) (hbw4))
    clear hbw4
    have hxb3_0_w4 : w4.cell? ⟨W.heap.size, 0, none⟩ = some (.int .i64 a0) := (blk_cell (HLw4.out.get 1 rfl).1 0).trans rfl
    have hxb3_1_w4 : w4.cell? ⟨W.heap.size, 1, none⟩ = some (.slice A0 l0.length c0) := (blk_cell (HLw4.out.get 1 rfl).1 1).trans rfl
    have hxb4_0_w4 : w4.cell? ⟨W.heap.size + 1, 0, none⟩ = some (.int .i64 a1) := (blk_cell (HLw4.out.get 0 rfl).1 0).trans rfl
    have hxb4_1_w4 : w4.cell? ⟨W.heap.size + 1, 1, none⟩ = some (.slice A1 l1.length c1) := (blk_cell (HLw4.out.get 0 rfl).1 1).trans rfl
    go_wp2
    go_ret
    exact ⟨rfl, HBw4.out⟩
  have q5 : decide (t1 < 0) = false := decide_eq_false d5
  have P := HP5.out (by omega)
  clear HP5
  obtain ⟨X0, X1, X2, X3, X4, X5, hF2, hF3, hF4, hF5, hF6, hF7, hF8, hF9, hF10, hB0, hB1⟩ := P
  have F2 := Aside0.mk hF2
  have F3 := Aside0.mk hF3
  have F4 := Aside0.mk hF4
  have F5 := Aside0.mk hF5
  have F6 := Aside0.mk hF6
  have F7 := Aside0.mk hF7
  have F8 := Aside0.mk hF8
  have F9 := Aside0.mk hF9
  have F10 := Aside0.mk hF10
  have HBD := Aside0.mk (show (1 + (totO X1 : Int)) ≤ 4611686018427387904 ∧ ((1 + (totO X1 : Int)) + (totO X3 : Int)) ≤ 4611686018427387904 from ⟨hB0, hB1⟩)
  clear hF2 hF3 hF4 hF5 hF6 hF7 hF8 hF9 hF10 hB0 hB1
  have hneX0 : (X0 != X0) = false := bne_self_eq_false X0
  have hneX2 : (X2 != X2) = false := bne_self_eq_false X2
  have hneX5 : (X5 != X5) = false := bne_self_eq_false X5
  go_enter Try.func7, Try.ntmps7
  obtain ⟨lox1, hix1, HLx1⟩ := Live.make_box (Live.nil W) (.cells #[.int .i64 a0, .slice A0 l0.length c0] 24) (W.heap.size) (by simp)
  obtain ⟨lox2, hix2, HLx2⟩ := Live.make_box HLx1 (.cells #[.int .i64 a1, .slice A1 l1.length c1] 24) (W.heap.size + 1) (by simp)
  go_wp2_with fail
  (with_reducible refine (laws_szAlgebra.calls k a0 _ _ l0 1048576 t0 _ (Kd.C_below HR0.out (below_alloc (below_alloc (Below.refl _ _) _) _)) HC0.out F0.out).mono ?_)
  rintro e w3 ⟨rfl, hbw3⟩
  have HLw3 := Aside0.mk (HLx2.below hbw3)
  have HBw3 := Aside0.mk (below_step (below_alloc (below_alloc (Below.refl _ _) _) _) (hbw3))
  clear hbw3
  have hxb3_0_w3 : w3.cell? ⟨W.heap.size, 0, none⟩ = some (.int .i64 a0) := (blk_cell (HLw3.out.get 1 rfl).1 0).trans rfl
  have hxb3_1_w3 : w3.cell? ⟨W.heap.size, 1, none⟩ = some (.slice A0 l0.length c0) := (blk_cell (HLw3.out.get 1 rfl).1 1).trans rfl
  have hxb4_0_w3 : w3.cell? ⟨W.heap.size + 1, 0, none⟩ = some (.int .i64 a1) := (blk_cell (HLw3.out.get 0 rfl).1 0).trans rfl
  have hxb4_1_w3 : w3.cell? ⟨W.heap.size + 1, 1, none⟩ = some (.slice A1 l1.length c1) := (blk_cell (HLw3.out.get 0 rfl).1 1).trans rfl
  go_wp2_with fail
  (with_reducible refine (laws_szAlgebra.calls k a1 _ _ l1 t0 t1 _ (Kd.C_below HR1.out (HBw3.out)) HC1.out F1.out).mono ?_)
  rintro e w4 ⟨rfl, hbw4⟩
  have HLw4 := Aside0.mk (HLw3.out.below hbw4)
  have HBw4 := Aside0.mk (below_step (HBw3.out) (hbw4))
  clear hbw4
  have hxb3_0_w4 : w4.cell? ⟨W.heap.size, 0, none⟩ = some (.int .i64 a0) := (blk_cell (HLw4.out.get 1 rfl).1 0).trans rfl
  have hxb3_1_w4 : w4.cell? ⟨W.heap.size, 1, none⟩ = some (.slice A0 l0.length c0) := (blk_cell (HLw4.out.get 1 rfl).1 1).trans rfl
  have hxb4_0_w4 : w4.cell? ⟨W.heap.size + 1, 0, none⟩ = some (.int .i64 a1) := (blk_cell (HLw4.out.get 0 rfl).1 0).trans rfl
  have hxb4_1_w4 : w4.cell? ⟨W.heap.size + 1, 1, none⟩ = some (.slice A1 l1.length c1) := (blk_cell (HLw4.out.get 0 rfl).1 1).trans rfl
  go_wp2_with fail
  go_region_held3 (fun w' => w'.cell? ⟨W.heap.size, 0, none⟩ = some (.int .i64 a0) ∧ w'.cell? ⟨W.heap.size, 1, none⟩ = some (.slice A0 l0.length c0) ∧ w'.cell? ⟨W.heap.size + 1, 0, none⟩ = some (.int .i64 a1) ∧ w'.cell? ⟨W.heap.size + 1, 1, none⟩ = some (.slice A1 l1.length c1)) (first | (simp [*]; done) | go_keep) (first | (go_at_call 17; (with_reducible refine (laws_toAlgebra.calls k a0 _ _ l0 X0 X1 _ (Kd.C_below HR0.out (below_drew1 (HBw4.out))) HC0.out F2.out).mono ?_); rintro e w5 ⟨vw5_0, rfl, how5_0, hbw5⟩; obtain ⟨Aw5, cw5, rfl⟩ := Kd.S_slice how5_0; obtain ⟨low5, hiw5, hlw5⟩ := Live.make_S (Live.drew HLw4.out) hbw5 how5_0 (below_size (below_drew1 (HBw4.out))); have HLw5 := Aside0.mk hlw5; clear hlw5 how5_0; have HBw5 := Aside0.mk (below_step (below_drew1 (HBw4.out)) (hbw5)); clear hbw5; have hxb3_0_w5 : w5.cell? ⟨W.heap.size, 0, none⟩ = some (.int .i64 a0) := (blk_cell (HLw5.out.get 2 rfl).1 0).trans rfl; have hxb3_1_w5 : w5.cell? ⟨W.heap.size, 1, none⟩ = some (.slice A0 l0.length c0) := (blk_cell (HLw5.out.get 2 rfl).1 1).trans rfl; have hxb4_0_w5 : w5.cell? ⟨W.heap.size + 1, 0, none⟩ = some (.int .i64 a1) := (blk_cell (HLw5.out.get 1 rfl).1 0).trans rfl; have hxb4_1_w5 : w5.cell? ⟨W.heap.size + 1, 1, none⟩ = some (.slice A1 l1.length c1) := (blk_cell (HLw5.out.get 1 rfl).1 1).trans rfl) | (go_at_call 17; (with_reducible refine (laws_toAlgebra.calls k a1 _ _ l1 X2 X3 _ (Kd.C_below HR1.out (HBw5.out)) HC1.out F3.out).mono ?_); rintro e w6 ⟨vw6_0, rfl, how6_0, hbw6⟩; obtain ⟨Aw6, cw6, rfl⟩ := Kd.S_slice how6_0; obtain ⟨low6, hiw6, hlw6⟩ := Live.make_S HLw5.out hbw6 how6_0 (below_size (HBw5.out)); have HLw6 := Aside0.mk hlw6; clear hlw6 how6_0; have HBw6 := Aside0.mk (below_step (HBw5.out) (hbw6)); clear hbw6; have hxb3_0_w6 : w6.cell? ⟨W.heap.size, 0, none⟩ = some (.int .i64 a0) := (blk_cell (HLw6.out.get 3 rfl).1 0).trans rfl; have hxb3_1_w6 : w6.cell? ⟨W.heap.size, 1, none⟩ = some (.slice A0 l0.length c0) := (blk_cell (HLw6.out.get 3 rfl).1 1).trans rfl; have hxb4_0_w6 : w6.cell? ⟨W.heap.size + 1, 0, none⟩ = some (.int .i64 a1) := (blk_cell (HLw6.out.get 2 rfl).1 0).trans rfl; have hxb4_1_w6 : w6.cell? ⟨W.heap.size + 1, 1, none⟩ = some (.slice A1 l1.length c1) := (blk_cell (HLw6.out.get 2 rfl).1 1).trans rfl) | (go_at_call 45; (with_reducible refine (spec_FactorOfProduct.calls k X0 _ _ X1 X2 _ _ X3 a2 X4 X5 _ (Kd.S_reads' (HLw6.out.get 1 rfl)).2.2 (Kd.S_reads' (HLw6.out.get 1 rfl)).2.1 (Kd.S_reads' (HLw6.out.get 0 rfl)).2.2 (Kd.S_reads' (HLw6.out.get 0 rfl)).2.1 F4.out).mono ?_); rintro e w7 ⟨vw7_0, rfl, how7_0, hbw7⟩; obtain ⟨Aw7, cw7, rfl⟩ := Kd.R_slice how7_0; obtain ⟨low7, hiw7, hlw7⟩ := Live.make_R HLw6.out hbw7 how7_0 (below_size (HBw6.out)); have HLw7 := Aside0.mk hlw7; clear hlw7 how7_0; have HBw7 := Aside0.mk (below_step (HBw6.out) (hbw7)); clear hbw7; have hxb3_0_w7 : w7.cell? ⟨W.heap.size, 0, none⟩ = some (.int .i64 a0) := (blk_cell (HLw7.out.get 4 rfl).1 0).trans rfl; have hxb3_1_w7 : w7.cell? ⟨W.heap.size, 1, none⟩ = some (.slice A0 l0.length c0) := (blk_cell (HLw7.out.get 4 rfl).1 1).trans rfl; have hxb4_0_w7 : w7.cell? ⟨W.heap.size + 1, 0, none⟩ = some (.int .i64 a1) := (blk_cell (HLw7.out.get 3 rfl).1 0).trans rfl; have hxb4_1_w7 : w7.cell? ⟨W.heap.size + 1, 1, none⟩ = some (.slice A1 l1.length c1) := (blk_cell (HLw7.out.get 3 rfl).1 1).trans rfl))
  go_wp2_with fail
  (with_reducible refine (laws_toAlgebra.calls k a0 _ _ l0 X0 X1 _ (Kd.C_below HR0.out (HBw7.out)) HC0.out F2.out).mono ?_)
  rintro e w8 ⟨vw8_0, rfl, how8_0, hbw8⟩
  obtain ⟨Aw8, cw8, rfl⟩ := Kd.S_slice how8_0
  obtain ⟨low8, hiw8, hlw8⟩ := Live.make_S HLw7.out hbw8 how8_0 (below_size (HBw7.out))
  have HLw8 := Aside0.mk hlw8
  clear hlw8 how8_0
  have HBw8 := Aside0.mk (below_step (HBw7.out) (hbw8))
  clear hbw8
  have hxb3_0_w8 : w8.cell? ⟨W.heap.size, 0, none⟩ = some (.int .i64 a0) := (blk_cell (HLw8.out.get 5 rfl).1 0).trans rfl
  have hxb3_1_w8 : w8.cell? ⟨W.heap.size, 1, none⟩ = some (.slice A0 l0.length c0) := (blk_cell (HLw8.out.get 5 rfl).1 1).trans rfl
  have hxb4_0_w8 : w8.cell? ⟨W.heap.size + 1, 0, none⟩ = some (.int .i64 a1) := (blk_cell (HLw8.out.get 4 rfl).1 0).trans rfl
  have hxb4_1_w8 : w8.cell? ⟨W.heap.size + 1, 1, none⟩ = some (.slice A1 l1.length c1) := (blk_cell (HLw8.out.get 4 rfl).1 1).trans rfl
  obtain ⟨lox9, hix9, HLx9⟩ := Live.make_box HLw8.out (.cells #[.int .i64 X0, .slice Aw8 X1.length cw8] 30) (w8.heap.size) (by simp)
  have hxb3_0_w8allocce : (w8.alloc (.cells #[.int .i64 X0, .slice Aw8 X1.length cw8] 30)).cell? ⟨W.heap.size, 0, none⟩ = some (.int .i64 a0) := (blk_cell (HLx9.get 6 rfl).1 0).trans rfl
  have hxb3_1_w8allocce : (w8.alloc (.cells #[.int .i64 X0, .slice Aw8 X1.length cw8] 30)).cell? ⟨W.heap.size, 1, none⟩ = some (.slice A0 l0.length c0) := (blk_cell (HLx9.get 6 rfl).1 1).trans rfl
  have hxb4_0_w8allocce : (w8.alloc (.cells #[.int .i64 X0, .slice Aw8 X1.length cw8] 30)).cell? ⟨W.heap.size + 1, 0, none⟩ = some (.int .i64 a1) := (blk_cell (HLx9.get 5 rfl).1 0).trans rfl
  have hxb4_1_w8allocce : (w8.alloc (.cells #[.int .i64 X0, .slice Aw8 X1.length cw8] 30)).cell? ⟨W.heap.size + 1, 1, none⟩ = some (.slice A1 l1.length c1) := (blk_cell (HLx9.get 5 rfl).1 1).trans rfl
  go_wp2_with fail
  (with_reducible refine (laws_toAlgebra.calls k a1 _ _ l1 X2 X3 _ (Kd.C_below HR1.out (below_alloc (HBw8.out) _)) HC1.out F3.out).mono ?_)
  rintro e w10 ⟨vw10_0, rfl, how10_0, hbw10⟩
  obtain ⟨Aw10, cw10, rfl⟩ := Kd.S_slice how10_0
  obtain ⟨low10, hiw10, hlw10⟩ := Live.make_S HLx9 hbw10 how10_0 (below_size (below_alloc (HBw8.out) _))
  have HLw10 := Aside0.mk hlw10
  clear hlw10 how10_0
  have HBw10 := Aside0.mk (below_step (below_alloc (HBw8.out) _) (hbw10))
  clear hbw10
  have hxb3_0_w10 : w10.cell? ⟨W.heap.size, 0, none⟩ = some (.int .i64 a0) := (blk_cell (HLw10.out.get 7 rfl).1 0).trans rfl
  have hxb3_1_w10 : w10.cell? ⟨W.heap.size, 1, none⟩ = some (.slice A0 l0.length c0) := (blk_cell (HLw10.out.get 7 rfl).1 1).trans rfl
  have hxb4_0_w10 : w10.cell? ⟨W.heap.size + 1, 0, none⟩ = some (.int .i64 a1) := (blk_cell (HLw10.out.get 6 rfl).1 0).trans rfl
  have hxb4_1_w10 : w10.cell? ⟨W.heap.size + 1, 1, none⟩ = some (.slice A1 l1.length c1) := (blk_cell (HLw10.out.get 6 rfl).1 1).trans rfl
  have hxb10_0_w10 : w10.cell? ⟨w8.heap.size, 0, none⟩ = some (.int .i64 X0) := (blk_cell (HLw10.out.get 1 rfl).1 0).trans rfl
  have hxb10_1_w10 : w10.cell? ⟨w8.heap.size, 1, none⟩ = some (.slice Aw8 X1.length cw8) := (blk_cell (HLw10.out.get 1 rfl).1 1).trans rfl
  obtain ⟨lox11, hix11, HLx11⟩ := Live.make_box HLw10.out (.cells #[.int .i64 X2, .slice Aw10 X3.length cw10] 30) (w10.heap.size) (by simp)
  have hxb3_0_w10allocc : (w10.alloc (.cells #[.int .i64 X2, .slice Aw10 X3.length cw10] 30)).cell? ⟨W.heap.size, 0, none⟩ = some (.int .i64 a0) := (blk_cell (HLx11.get 8 rfl).1 0).trans rfl
  have hxb3_1_w10allocc : (w10.alloc (.cells #[.int .i64 X2, .slice Aw10 X3.length cw10] 30)).cell? ⟨W.heap.size, 1, none⟩ = some (.slice A0 l0.length c0) := (blk_cell (HLx11.get 8 rfl).1 1).trans rfl
  have hxb4_0_w10allocc : (w10.alloc (.cells #[.int .i64 X2, .slice Aw10 X3.length cw10] 30)).cell? ⟨W.heap.size + 1, 0, none⟩ = some (.int .i64 a1) := (blk_cell (HLx11.get 7 rfl).1 0).trans rfl
  have hxb4_1_w10allocc : (w10.alloc (.cells #[.int .i64 X2, .slice Aw10 X3.length cw10] 30)).cell? ⟨W.heap.size + 1, 1, none⟩ = some (.slice A1 l1.length c1) := (blk_cell (HLx11.get 7 rfl).1 1).trans rfl
  have hxb10_0_w10allocc : (w10.alloc (.cells #[.int .i64 X2, .slice Aw10 X3.length cw10] 30)).cell? ⟨w8.heap.size, 0, none⟩ = some (.int .i64 X0) := (blk_cell (HLx11.get 2 rfl).1 0).trans rfl
  have hxb10_1_w10allocc : (w10.alloc (.cells #[.int .i64 X2, .slice Aw10 X3.length cw10] 30)).cell? ⟨w8.heap.size, 1, none⟩ = some (.slice Aw8 X1.length cw8) := (blk_cell (HLx11.get 2 rfl).1 1).trans rfl
  go_wp2_with fail
  (with_reducible refine (impl_FactorOfProduct.calls k X0 _ _ X1 X2 _ _ X3 a2 X4 X5 _ (Kd.S_reads' (HLx11.get 3 rfl)).2.2 (Kd.S_reads' (HLx11.get 3 rfl)).2.1 (Kd.S_reads' (HLx11.get 1 rfl)).2.2 (Kd.S_reads' (HLx11.get 1 rfl)).2.1 F5.out).mono ?_)
  rintro e w12 ⟨vw12_0, rfl, how12_0, hbw12⟩
  obtain ⟨Aw12, cw12, rfl⟩ := Kd.R_slice how12_0
  obtain ⟨low12, hiw12, hlw12⟩ := Live.make_R HLx11 hbw12 how12_0 (below_size (below_alloc (HBw10.out) _))
  have HLw12 := Aside0.mk hlw12
  clear hlw12 how12_0
  have HBw12 := Aside0.mk (below_step (below_alloc (HBw10.out) _) (hbw12))
  clear hbw12
  have hxb3_0_w12 : w12.cell? ⟨W.heap.size, 0, none⟩ = some (.int .i64 a0) := (blk_cell (HLw12.out.get 9 rfl).1 0).trans rfl
  have hxb3_1_w12 : w12.cell? ⟨W.heap.size, 1, none⟩ = some (.slice A0 l0.length c0) := (blk_cell (HLw12.out.get 9 rfl).1 1).trans rfl
  have hxb4_0_w12 : w12.cell? ⟨W.heap.size + 1, 0, none⟩ = some (.int .i64 a1) := (blk_cell (HLw12.out.get 8 rfl).1 0).trans rfl
  have hxb4_1_w12 : w12.cell? ⟨W.heap.size + 1, 1, none⟩ = some (.slice A1 l1.length c1) := (blk_cell (HLw12.out.get 8 rfl).1 1).trans rfl
  have hxb10_0_w12 : w12.cell? ⟨w8.heap.size, 0, none⟩ = some (.int .i64 X0) := (blk_cell (HLw12.out.get 3 rfl).1 0).trans rfl
  have hxb10_1_w12 : w12.cell? ⟨w8.heap.size, 1, none⟩ = some (.slice Aw8 X1.length cw8) := (blk_cell (HLw12.out.get 3 rfl).1 1).trans rfl
  have hxb11_0_w12 : w12.cell? ⟨w10.heap.size, 0, none⟩ = some (.int .i64 X2) := (blk_cell (HLw12.out.get 1 rfl).1 0).trans rfl
  have hxb11_1_w12 : w12.cell? ⟨w10.heap.size, 1, none⟩ = some (.slice Aw10 X3.length cw10) := (blk_cell (HLw12.out.get 1 rfl).1 1).trans rfl
  go_wp2_with fail
  (with_reducible refine (laws_eqIntS.calls k _ _ X4 _ _ X4 true _ (Kd.R_reads' (HLw12.out.get 0 rfl)).2.2 (Kd.R_reads' (HLw12.out.get 0 rfl)).2.1 (Kd.R_reads' (HLw12.out.get 5 rfl)).2.2 (Kd.R_reads' (HLw12.out.get 5 rfl)).2.1 F6.out).mono ?_)
  rintro e w13 ⟨rfl, hbw13⟩
  have HLw13 := Aside0.mk (HLw12.out.below hbw13.below)
  have HBw13 := Aside0.mk (below_step (HBw12.out) (hbw13.below))
  clear hbw13
  have hxb3_0_w13 : w13.cell? ⟨W.heap.size, 0, none⟩ = some (.int .i64 a0) := (blk_cell (HLw13.out.get 9 rfl).1 0).trans rfl
  have hxb3_1_w13 : w13.cell? ⟨W.heap.size, 1, none⟩ = some (.slice A0 l0.length c0) := (blk_cell (HLw13.out.get 9 rfl).1 1).trans rfl
  have hxb4_0_w13 : w13.cell? ⟨W.heap.size + 1, 0, none⟩ = some (.int .i64 a1) := (blk_cell (HLw13.out.get 8 rfl).1 0).trans rfl
  have hxb4_1_w13 : w13.cell? ⟨W.heap.size + 1, 1, none⟩ = some (.slice A1 l1.length c1) := (blk_cell (HLw13.out.get 8 rfl).1 1).trans rfl
  have hxb10_0_w13 : w13.cell? ⟨w8.heap.size, 0, none⟩ = some (.int .i64 X0) := (blk_cell (HLw13.out.get 3 rfl).1 0).trans rfl
  have hxb10_1_w13 : w13.cell? ⟨w8.heap.size, 1, none⟩ = some (.slice Aw8 X1.length cw8) := (blk_cell (HLw13.out.get 3 rfl).1 1).trans rfl
  have hxb11_0_w13 : w13.cell? ⟨w10.heap.size, 0, none⟩ = some (.int .i64 X2) := (blk_cell (HLw13.out.get 1 rfl).1 0).trans rfl
  have hxb11_1_w13 : w13.cell? ⟨w10.heap.size, 1, none⟩ = some (.slice Aw10 X3.length cw10) := (blk_cell (HLw13.out.get 1 rfl).1 1).trans rfl
  go_wp2_with fail
  go_region_held3 (fun w' => w'.cell? ⟨W.heap.size, 0, none⟩ = some (.int .i64 a0) ∧ w'.cell? ⟨W.heap.size, 1, none⟩ = some (.slice A0 l0.length c0) ∧ w'.cell? ⟨W.heap.size + 1, 0, none⟩ = some (.int .i64 a1) ∧ w'.cell? ⟨W.heap.size + 1, 1, none⟩ = some (.slice A1 l1.length c1) ∧ w'.cell? ⟨w8.heap.size, 0, none⟩ = some (.int .i64 X0) ∧ w'.cell? ⟨w8.heap.size, 1, none⟩ = some (.slice Aw8 X1.length cw8) ∧ w'.cell? ⟨w10.heap.size, 0, none⟩ = some (.int .i64 X2) ∧ w'.cell? ⟨w10.heap.size, 1, none⟩ = some (.slice Aw10 X3.length cw10)) (first | (simp [*]; done) | go_keep) (first | (go_at_call 17; (with_reducible refine (laws_toAlgebra.calls k a0 _ _ l0 X0 X1 _ (Kd.C_below HR0.out (below_drew1 (HBw13.out))) HC0.out F2.out).mono ?_); rintro e w14 ⟨vw14_0, rfl, how14_0, hbw14⟩; obtain ⟨Aw14, cw14, rfl⟩ := Kd.S_slice how14_0; obtain ⟨low14, hiw14, hlw14⟩ := Live.make_S (Live.drew HLw13.out) hbw14 how14_0 (below_size (below_drew1 (HBw13.out))); have HLw14 := Aside0.mk hlw14; clear hlw14 how14_0; have HBw14 := Aside0.mk (below_step (below_drew1 (HBw13.out)) (hbw14)); clear hbw14; have hxb3_0_w14 : w14.cell? ⟨W.heap.size, 0, none⟩ = some (.int .i64 a0) := (blk_cell (HLw14.out.get 10 rfl).1 0).trans rfl; have hxb3_1_w14 : w14.cell? ⟨W.heap.size, 1, none⟩ = some (.slice A0 l0.length c0) := (blk_cell (HLw14.out.get 10 rfl).1 1).trans rfl; have hxb4_0_w14 : w14.cell? ⟨W.heap.size + 1, 0, none⟩ = some (.int .i64 a1) := (blk_cell (HLw14.out.get 9 rfl).1 0).trans rfl; have hxb4_1_w14 : w14.cell? ⟨W.heap.size + 1, 1, none⟩ = some (.slice A1 l1.length c1) := (blk_cell (HLw14.out.get 9 rfl).1 1).trans rfl; have hxb10_0_w14 : w14.cell? ⟨w8.heap.size, 0, none⟩ = some (.int .i64 X0) := (blk_cell (HLw14.out.get 4 rfl).1 0).trans rfl; have hxb10_1_w14 : w14.cell? ⟨w8.heap.size, 1, none⟩ = some (.slice Aw8 X1.length cw8) := (blk_cell (HLw14.out.get 4 rfl).1 1).trans rfl; have hxb11_0_w14 : w14.cell? ⟨w10.heap.size, 0, none⟩ = some (.int .i64 X2) := (blk_cell (HLw14.out.get 2 rfl).1 0).trans rfl; have hxb11_1_w14 : w14.cell? ⟨w10.heap.size, 1, none⟩ = some (.slice Aw10 X3.length cw10) := (blk_cell (HLw14.out.get 2 rfl).1 1).trans rfl) | (go_at_call 19; (with_reducible refine (laws_eqAlgebra.calls k X0 _ _ X1 X0 _ _ X1 true _ (Kd.S_reads' (HLw14.out.get 5 rfl)).2.2 (Kd.S_reads' (HLw14.out.get 5 rfl)).2.1 (Kd.S_reads' (HLw14.out.get 0 rfl)).2.2 (Kd.S_reads' (HLw14.out.get 0 rfl)).2.1 F7.out).mono ?_); rintro e w15 ⟨rfl, hbw15⟩; have HLw15 := Aside0.mk (HLw14.out.below hbw15); have HBw15 := Aside0.mk (below_step (HBw14.out) (hbw15)); clear hbw15; have hxb3_0_w15 : w15.cell? ⟨W.heap.size, 0, none⟩ = some (.int .i64 a0) := (blk_cell (HLw15.out.get 10 rfl).1 0).trans rfl; have hxb3_1_w15 : w15.cell? ⟨W.heap.size, 1, none⟩ = some (.slice A0 l0.length c0) := (blk_cell (HLw15.out.get 10 rfl).1 1).trans rfl; have hxb4_0_w15 : w15.cell? ⟨W.heap.size + 1, 0, none⟩ = some (.int .i64 a1) := (blk_cell (HLw15.out.get 9 rfl).1 0).trans rfl; have hxb4_1_w15 : w15.cell? ⟨W.heap.size + 1, 1, none⟩ = some (.slice A1 l1.length c1) := (blk_cell (HLw15.out.get 9 rfl).1 1).trans rfl; have hxb10_0_w15 : w15.cell? ⟨w8.heap.size, 0, none⟩ = some (.int .i64 X0) := (blk_cell (HLw15.out.get 4 rfl).1 0).trans rfl; have hxb10_1_w15 : w15.cell? ⟨w8.heap.size, 1, none⟩ = some (.slice Aw8 X1.length cw8) := (blk_cell (HLw15.out.get 4 rfl).1 1).trans rfl; have hxb11_0_w15 : w15.cell? ⟨w10.heap.size, 0, none⟩ = some (.int .i64 X2) := (blk_cell (HLw15.out.get 2 rfl).1 0).trans rfl; have hxb11_1_w15 : w15.cell? ⟨w10.heap.size, 1, none⟩ = some (.slice Aw10 X3.length cw10) := (blk_cell (HLw15.out.get 2 rfl).1 1).trans rfl))
  go_wp2_with fail
  go_region_held3 (fun w' => w'.cell? ⟨W.heap.size, 0, none⟩ = some (.int .i64 a0) ∧ w'.cell? ⟨W.heap.size, 1, none⟩ = some (.slice A0 l0.length c0) ∧ w'.cell? ⟨W.heap.size + 1, 0, none⟩ = some (.int .i64 a1) ∧ w'.cell? ⟨W.heap.size + 1, 1, none⟩ = some (.slice A1 l1.length c1) ∧ w'.cell? ⟨w8.heap.size, 0, none⟩ = some (.int .i64 X0) ∧ w'.cell? ⟨w8.heap.size, 1, none⟩ = some (.slice Aw8 X1.length cw8) ∧ w'.cell? ⟨w10.heap.size, 0, none⟩ = some (.int .i64 X2) ∧ w'.cell? ⟨w10.heap.size, 1, none⟩ = some (.slice Aw10 X3.length cw10)) (first | (simp [*]; done) | go_keep) (first | (go_at_call 17; (with_reducible refine (laws_toAlgebra.calls k a1 _ _ l1 X2 X3 _ (Kd.C_below HR1.out (below_drew1 (HBw15.out))) HC1.out F3.out).mono ?_); rintro e w16 ⟨vw16_0, rfl, how16_0, hbw16⟩; obtain ⟨Aw16, cw16, rfl⟩ := Kd.S_slice how16_0; obtain ⟨low16, hiw16, hlw16⟩ := Live.make_S (Live.drew HLw15.out) hbw16 how16_0 (below_size (below_drew1 (HBw15.out))); have HLw16 := Aside0.mk hlw16; clear hlw16 how16_0; have HBw16 := Aside0.mk (below_step (below_drew1 (HBw15.out)) (hbw16)); clear hbw16; have hxb3_0_w16 : w16.cell? ⟨W.heap.size, 0, none⟩ = some (.int .i64 a0) := (blk_cell (HLw16.out.get 11 rfl).1 0).trans rfl; have hxb3_1_w16 : w16.cell? ⟨W.heap.size, 1, none⟩ = some (.slice A0 l0.length c0) := (blk_cell (HLw16.out.get 11 rfl).1 1).trans rfl; have hxb4_0_w16 : w16.cell? ⟨W.heap.size + 1, 0, none⟩ = some (.int .i64 a1) := (blk_cell (HLw16.out.get 10 rfl).1 0).trans rfl; have hxb4_1_w16 : w16.cell? ⟨W.heap.size + 1, 1, none⟩ = some (.slice A1 l1.length c1) := (blk_cell (HLw16.out.get 10 rfl).1 1).trans rfl; have hxb10_0_w16 : w16.cell? ⟨w8.heap.size, 0, none⟩ = some (.int .i64 X0) := (blk_cell (HLw16.out.get 5 rfl).1 0).trans rfl; have hxb10_1_w16 : w16.cell? ⟨w8.heap.size, 1, none⟩ = some (.slice Aw8 X1.length cw8) := (blk_cell (HLw16.out.get 5 rfl).1 1).trans rfl; have hxb11_0_w16 : w16.cell? ⟨w10.heap.size, 0, none⟩ = some (.int .i64 X2) := (blk_cell (HLw16.out.get 3 rfl).1 0).trans rfl; have hxb11_1_w16 : w16.cell? ⟨w10.heap.size, 1, none⟩ = some (.slice Aw10 X3.length cw10) := (blk_cell (HLw16.out.get 3 rfl).1 1).trans rfl) | (go_at_call 19; (with_reducible refine (laws_eqAlgebra.calls k X2 _ _ X3 X2 _ _ X3 true _ (Kd.S_reads' (HLw16.out.get 4 rfl)).2.2 (Kd.S_reads' (HLw16.out.get 4 rfl)).2.1 (Kd.S_reads' (HLw16.out.get 0 rfl)).2.2 (Kd.S_reads' (HLw16.out.get 0 rfl)).2.1 F8.out).mono ?_); rintro e w17 ⟨rfl, hbw17⟩; have HLw17 := Aside0.mk (HLw16.out.below hbw17); have HBw17 := Aside0.mk (below_step (HBw16.out) (hbw17)); clear hbw17; have hxb3_0_w17 : w17.cell? ⟨W.heap.size, 0, none⟩ = some (.int .i64 a0) := (blk_cell (HLw17.out.get 11 rfl).1 0).trans rfl; have hxb3_1_w17 : w17.cell? ⟨W.heap.size, 1, none⟩ = some (.slice A0 l0.length c0) := (blk_cell (HLw17.out.get 11 rfl).1 1).trans rfl; have hxb4_0_w17 : w17.cell? ⟨W.heap.size + 1, 0, none⟩ = some (.int .i64 a1) := (blk_cell (HLw17.out.get 10 rfl).1 0).trans rfl; have hxb4_1_w17 : w17.cell? ⟨W.heap.size + 1, 1, none⟩ = some (.slice A1 l1.length c1) := (blk_cell (HLw17.out.get 10 rfl).1 1).trans rfl; have hxb10_0_w17 : w17.cell? ⟨w8.heap.size, 0, none⟩ = some (.int .i64 X0) := (blk_cell (HLw17.out.get 5 rfl).1 0).trans rfl; have hxb10_1_w17 : w17.cell? ⟨w8.heap.size, 1, none⟩ = some (.slice Aw8 X1.length cw8) := (blk_cell (HLw17.out.get 5 rfl).1 1).trans rfl; have hxb11_0_w17 : w17.cell? ⟨w10.heap.size, 0, none⟩ = some (.int .i64 X2) := (blk_cell (HLw17.out.get 3 rfl).1 0).trans rfl; have hxb11_1_w17 : w17.cell? ⟨w10.heap.size, 1, none⟩ = some (.slice Aw10 X3.length cw10) := (blk_cell (HLw17.out.get 3 rfl).1 1).trans rfl))
  go_wp2_with fail
  (with_reducible refine (laws_markAlgebra.marks X0 (fun k => low8 ≤ k ∧ k < hiw8) _ X1 1 W _ (HBw17.out) (HLw17.out.get 6 rfl) (by have := HBD.out; omega) (by have := HBD.out; omega)).mono ?_)
  rintro e w18 ⟨rfl, hm1, hm2, hm3⟩
  have HLw18 := Aside0.mk (Live.mark HLw17.out 6 rfl hm3 (seg_S hm1 (fun k hk _ _ => hk) (Nat.le_refl _)))
  have HBw18 := Aside0.mk hm2
  clear hm1 hm2 hm3
  have hxb3_0_w18 : w18.cell? ⟨W.heap.size, 0, none⟩ = some (.int .i64 a0) := (blk_cell (HLw18.out.get 11 rfl).1 0).trans rfl
  have hxb3_1_w18 : w18.cell? ⟨W.heap.size, 1, none⟩ = some (.slice A0 l0.length c0) := (blk_cell (HLw18.out.get 11 rfl).1 1).trans rfl
  have hxb4_0_w18 : w18.cell? ⟨W.heap.size + 1, 0, none⟩ = some (.int .i64 a1) := (blk_cell (HLw18.out.get 10 rfl).1 0).trans rfl
  have hxb4_1_w18 : w18.cell? ⟨W.heap.size + 1, 1, none⟩ = some (.slice A1 l1.length c1) := (blk_cell (HLw18.out.get 10 rfl).1 1).trans rfl
  have hxb10_0_w18 : w18.cell? ⟨w8.heap.size, 0, none⟩ = some (.int .i64 X0) := (blk_cell (HLw18.out.get 5 rfl).1 0).trans rfl
  have hxb10_1_w18 : w18.cell? ⟨w8.heap.size, 1, none⟩ = some (.slice Aw8 X1.length cw8) := (blk_cell (HLw18.out.get 5 rfl).1 1).trans rfl
  have hxb11_0_w18 : w18.cell? ⟨w10.heap.size, 0, none⟩ = some (.int .i64 X2) := (blk_cell (HLw18.out.get 3 rfl).1 0).trans rfl
  have hxb11_1_w18 : w18.cell? ⟨w10.heap.size, 1, none⟩ = some (.slice Aw10 X3.length cw10) := (blk_cell (HLw18.out.get 3 rfl).1 1).trans rfl
  go_wp2_with fail
  (with_reducible refine (laws_markAlgebra.marks X2 (fun k => low10 ≤ k ∧ k < hiw10) _ X3 (1 + (totO X1 : Int)) W _ (HBw18.out) (HLw18.out.get 4 rfl) (by have := HBD.out; omega) (by have := HBD.out; omega)).mono ?_)
  rintro e w19 ⟨rfl, hm1, hm2, hm3⟩
  have HLw19 := Aside0.mk (Live.mark HLw18.out 4 rfl hm3 (seg_S hm1 (fun k hk _ _ => hk) (Nat.le_refl _)))
  have HBw19 := Aside0.mk hm2
  clear hm1 hm2 hm3
  have hxb3_0_w19 : w19.cell? ⟨W.heap.size, 0, none⟩ = some (.int .i64 a0) := (blk_cell (HLw19.out.get 11 rfl).1 0).trans rfl
  have hxb3_1_w19 : w19.cell? ⟨W.heap.size, 1, none⟩ = some (.slice A0 l0.length c0) := (blk_cell (HLw19.out.get 11 rfl).1 1).trans rfl
  have hxb4_0_w19 : w19.cell? ⟨W.heap.size + 1, 0, none⟩ = some (.int .i64 a1) := (blk_cell (HLw19.out.get 10 rfl).1 0).trans rfl
  have hxb4_1_w19 : w19.cell? ⟨W.heap.size + 1, 1, none⟩ = some (.slice A1 l1.length c1) := (blk_cell (HLw19.out.get 10 rfl).1 1).trans rfl
  have hxb10_0_w19 : w19.cell? ⟨w8.heap.size, 0, none⟩ = some (.int .i64 X0) := (blk_cell (HLw19.out.get 5 rfl).1 0).trans rfl
  have hxb10_1_w19 : w19.cell? ⟨w8.heap.size, 1, none⟩ = some (.slice Aw8 X1.length cw8) := (blk_cell (HLw19.out.get 5 rfl).1 1).trans rfl
  have hxb11_0_w19 : w19.cell? ⟨w10.heap.size, 0, none⟩ = some (.int .i64 X2) := (blk_cell (HLw19.out.get 3 rfl).1 0).trans rfl
  have hxb11_1_w19 : w19.cell? ⟨w10.heap.size, 1, none⟩ = some (.slice Aw10 X3.length cw10) := (blk_cell (HLw19.out.get 3 rfl).1 1).trans rfl
  go_wp2_with fail
  (with_reducible refine (laws_eqIntS.calls k _ _ X4 _ _ X4 true _ (Kd.R_reads' (HLw19.out.get 2 rfl)).2.2 (Kd.R_reads' (HLw19.out.get 2 rfl)).2.1 (Kd.R_reads' (HLw19.out.get 7 rfl)).2.2 (Kd.R_reads' (HLw19.out.get 7 rfl)).2.1 F6.out).mono ?_)
  rintro e w20 ⟨rfl, hbw20⟩
  have HLw20 := Aside0.mk (HLw19.out.below hbw20.below)
  have HBw20 := Aside0.mk (below_step (HBw19.out) (hbw20.below))
  clear hbw20
  have hxb3_0_w20 : w20.cell? ⟨W.heap.size, 0, none⟩ = some (.int .i64 a0) := (blk_cell (HLw20.out.get 11 rfl).1 0).trans rfl
  have hxb3_1_w20 : w20.cell? ⟨W.heap.size, 1, none⟩ = some (.slice A0 l0.length c0) := (blk_cell (HLw20.out.get 11 rfl).1 1).trans rfl
  have hxb4_0_w20 : w20.cell? ⟨W.heap.size + 1, 0, none⟩ = some (.int .i64 a1) := (blk_cell (HLw20.out.get 10 rfl).1 0).trans rfl
  have hxb4_1_w20 : w20.cell? ⟨W.heap.size + 1, 1, none⟩ = some (.slice A1 l1.length c1) := (blk_cell (HLw20.out.get 10 rfl).1 1).trans rfl
  have hxb10_0_w20 : w20.cell? ⟨w8.heap.size, 0, none⟩ = some (.int .i64 X0) := (blk_cell (HLw20.out.get 5 rfl).1 0).trans rfl
  have hxb10_1_w20 : w20.cell? ⟨w8.heap.size, 1, none⟩ = some (.slice Aw8 X1.length cw8) := (blk_cell (HLw20.out.get 5 rfl).1 1).trans rfl
  have hxb11_0_w20 : w20.cell? ⟨w10.heap.size, 0, none⟩ = some (.int .i64 X2) := (blk_cell (HLw20.out.get 3 rfl).1 0).trans rfl
  have hxb11_1_w20 : w20.cell? ⟨w10.heap.size, 1, none⟩ = some (.slice Aw10 X3.length cw10) := (blk_cell (HLw20.out.get 3 rfl).1 1).trans rfl
  go_wp2_with fail
  (with_reducible refine (laws_markIntS.calls k (fun k => low12 ≤ k ∧ k < hiw12) _ X4 1 _ _ W _ (HBw20.out) (HLw20.out.get 2 rfl) F9.out).mono ?_)
  rintro e w21 ⟨rfl, hm1, hm2, hm3⟩
  have HLw21 := Aside0.mk (Live.mark HLw20.out 2 rfl hm3 (seg_R (Kd.R_mono (Kd.R_tight rfl hm1) (fun k hk => (HLw20.out.get 2 rfl).1 k hk.symm)) (fun k hk _ _ => hk) (Nat.le_refl _)))
  have HBw21 := Aside0.mk hm2
  clear hm1 hm2 hm3
  have hxb3_0_w21 : w21.cell? ⟨W.heap.size, 0, none⟩ = some (.int .i64 a0) := (blk_cell (HLw21.out.get 11 rfl).1 0).trans rfl
  have hxb3_1_w21 : w21.cell? ⟨W.heap.size, 1, none⟩ = some (.slice A0 l0.length c0) := (blk_cell (HLw21.out.get 11 rfl).1 1).trans rfl
  have hxb4_0_w21 : w21.cell? ⟨W.heap.size + 1, 0, none⟩ = some (.int .i64 a1) := (blk_cell (HLw21.out.get 10 rfl).1 0).trans rfl
  have hxb4_1_w21 : w21.cell? ⟨W.heap.size + 1, 1, none⟩ = some (.slice A1 l1.length c1) := (blk_cell (HLw21.out.get 10 rfl).1 1).trans rfl
  have hxb10_0_w21 : w21.cell? ⟨w8.heap.size, 0, none⟩ = some (.int .i64 X0) := (blk_cell (HLw21.out.get 5 rfl).1 0).trans rfl
  have hxb10_1_w21 : w21.cell? ⟨w8.heap.size, 1, none⟩ = some (.slice Aw8 X1.length cw8) := (blk_cell (HLw21.out.get 5 rfl).1 1).trans rfl
  have hxb11_0_w21 : w21.cell? ⟨w10.heap.size, 0, none⟩ = some (.int .i64 X2) := (blk_cell (HLw21.out.get 3 rfl).1 0).trans rfl
  have hxb11_1_w21 : w21.cell? ⟨w10.heap.size, 1, none⟩ = some (.slice Aw10 X3.length cw10) := (blk_cell (HLw21.out.get 3 rfl).1 1).trans rfl
  go_wp2_with fail
  have r_ := (Kd.R_reads' (HLw21.out.get 2 rfl)).2
  have q_ := laws_heldIntS.calls k _ _ (asc X4.length 1) 1 (1 + (X4.length : Int)) _ (by first | exact r_.2 | (rw [asc_length]; exact r_.2)) (by first | exact r_.1 | (rw [asc_length]; exact r_.1)) F10.out
  rw [asc_length] at q_
  (with_reducible refine q_.mono ?_)
  clear q_ r_
  rintro e w22 ⟨rfl, hbw22⟩
  have HLw22 := Aside0.mk (HLw21.out.below hbw22.below)
  have HBw22 := Aside0.mk (below_step (HBw21.out) (hbw22.below))
  clear hbw22
  have hxb3_0_w22 : w22.cell? ⟨W.heap.size, 0, none⟩ = some (.int .i64 a0) := (blk_cell (HLw22.out.get 11 rfl).1 0).trans rfl
  have hxb3_1_w22 : w22.cell? ⟨W.heap.size, 1, none⟩ = some (.slice A0 l0.length c0) := (blk_cell (HLw22.out.get 11 rfl).1 1).trans rfl
  have hxb4_0_w22 : w22.cell? ⟨W.heap.size + 1, 0, none⟩ = some (.int .i64 a1) := (blk_cell (HLw22.out.get 10 rfl).1 0).trans rfl
  have hxb4_1_w22 : w22.cell? ⟨W.heap.size + 1, 1, none⟩ = some (.slice A1 l1.length c1) := (blk_cell (HLw22.out.get 10 rfl).1 1).trans rfl
  have hxb10_0_w22 : w22.cell? ⟨w8.heap.size, 0, none⟩ = some (.int .i64 X0) := (blk_cell (HLw22.out.get 5 rfl).1 0).trans rfl
  have hxb10_1_w22 : w22.cell? ⟨w8.heap.size, 1, none⟩ = some (.slice Aw8 X1.length cw8) := (blk_cell (HLw22.out.get 5 rfl).1 1).trans rfl
  have hxb11_0_w22 : w22.cell? ⟨w10.heap.size, 0, none⟩ = some (.int .i64 X2) := (blk_cell (HLw22.out.get 3 rfl).1 0).trans rfl
  have hxb11_1_w22 : w22.cell? ⟨w10.heap.size, 1, none⟩ = some (.slice Aw10 X3.length cw10) := (blk_cell (HLw22.out.get 3 rfl).1 1).trans rfl
  go_wp2_with fail
  go_region_held3 (fun w' => w'.cell? ⟨W.heap.size, 0, none⟩ = some (.int .i64 a0) ∧ w'.cell? ⟨W.heap.size, 1, none⟩ = some (.slice A0 l0.length c0) ∧ w'.cell? ⟨W.heap.size + 1, 0, none⟩ = some (.int .i64 a1) ∧ w'.cell? ⟨W.heap.size + 1, 1, none⟩ = some (.slice A1 l1.length c1) ∧ w'.cell? ⟨w8.heap.size, 0, none⟩ = some (.int .i64 X0) ∧ w'.cell? ⟨w8.heap.size, 1, none⟩ = some (.slice Aw8 X1.length cw8) ∧ w'.cell? ⟨w10.heap.size, 0, none⟩ = some (.int .i64 X2) ∧ w'.cell? ⟨w10.heap.size, 1, none⟩ = some (.slice Aw10 X3.length cw10)) (first | (simp [*]; done) | go_keep) (first | (go_at_call 17; (with_reducible refine (laws_toAlgebra.calls k a0 _ _ l0 X0 X1 _ (Kd.C_below HR0.out (below_drew1 (HBw22.out))) HC0.out F2.out).mono ?_); rintro e w23 ⟨vw23_0, rfl, how23_0, hbw23⟩; obtain ⟨Aw23, cw23, rfl⟩ := Kd.S_slice how23_0; obtain ⟨low23, hiw23, hlw23⟩ := Live.make_S (Live.drew HLw22.out) hbw23 how23_0 (below_size (below_drew1 (HBw22.out))); have HLw23 := Aside0.mk hlw23; clear hlw23 how23_0; have HBw23 := Aside0.mk (below_step (below_drew1 (HBw22.out)) (hbw23)); clear hbw23; have hxb3_0_w23 : w23.cell? ⟨W.heap.size, 0, none⟩ = some (.int .i64 a0) := (blk_cell (HLw23.out.get 12 rfl).1 0).trans rfl; have hxb3_1_w23 : w23.cell? ⟨W.heap.size, 1, none⟩ = some (.slice A0 l0.length c0) := (blk_cell (HLw23.out.get 12 rfl).1 1).trans rfl; have hxb4_0_w23 : w23.cell? ⟨W.heap.size + 1, 0, none⟩ = some (.int .i64 a1) := (blk_cell (HLw23.out.get 11 rfl).1 0).trans rfl; have hxb4_1_w23 : w23.cell? ⟨W.heap.size + 1, 1, none⟩ = some (.slice A1 l1.length c1) := (blk_cell (HLw23.out.get 11 rfl).1 1).trans rfl; have hxb10_0_w23 : w23.cell? ⟨w8.heap.size, 0, none⟩ = some (.int .i64 X0) := (blk_cell (HLw23.out.get 6 rfl).1 0).trans rfl; have hxb10_1_w23 : w23.cell? ⟨w8.heap.size, 1, none⟩ = some (.slice Aw8 X1.length cw8) := (blk_cell (HLw23.out.get 6 rfl).1 1).trans rfl; have hxb11_0_w23 : w23.cell? ⟨w10.heap.size, 0, none⟩ = some (.int .i64 X2) := (blk_cell (HLw23.out.get 4 rfl).1 0).trans rfl; have hxb11_1_w23 : w23.cell? ⟨w10.heap.size, 1, none⟩ = some (.slice Aw10 X3.length cw10) := (blk_cell (HLw23.out.get 4 rfl).1 1).trans rfl) | (go_at_call 17; (with_reducible refine (laws_toAlgebra.calls k a1 _ _ l1 X2 X3 _ (Kd.C_below HR1.out (HBw23.out)) HC1.out F3.out).mono ?_); rintro e w24 ⟨vw24_0, rfl, how24_0, hbw24⟩; obtain ⟨Aw24, cw24, rfl⟩ := Kd.S_slice how24_0; obtain ⟨low24, hiw24, hlw24⟩ := Live.make_S HLw23.out hbw24 how24_0 (below_size (HBw23.out)); have HLw24 := Aside0.mk hlw24; clear hlw24 how24_0; have HBw24 := Aside0.mk (below_step (HBw23.out) (hbw24)); clear hbw24; have hxb3_0_w24 : w24.cell? ⟨W.heap.size, 0, none⟩ = some (.int .i64 a0) := (blk_cell (HLw24.out.get 13 rfl).1 0).trans rfl; have hxb3_1_w24 : w24.cell? ⟨W.heap.size, 1, none⟩ = some (.slice A0 l0.length c0) := (blk_cell (HLw24.out.get 13 rfl).1 1).trans rfl; have hxb4_0_w24 : w24.cell? ⟨W.heap.size + 1, 0, none⟩ = some (.int .i64 a1) := (blk_cell (HLw24.out.get 12 rfl).1 0).trans rfl; have hxb4_1_w24 : w24.cell? ⟨W.heap.size + 1, 1, none⟩ = some (.slice A1 l1.length c1) := (blk_cell (HLw24.out.get 12 rfl).1 1).trans rfl; have hxb10_0_w24 : w24.cell? ⟨w8.heap.size, 0, none⟩ = some (.int .i64 X0) := (blk_cell (HLw24.out.get 7 rfl).1 0).trans rfl; have hxb10_1_w24 : w24.cell? ⟨w8.heap.size, 1, none⟩ = some (.slice Aw8 X1.length cw8) := (blk_cell (HLw24.out.get 7 rfl).1 1).trans rfl; have hxb11_0_w24 : w24.cell? ⟨w10.heap.size, 0, none⟩ = some (.int .i64 X2) := (blk_cell (HLw24.out.get 5 rfl).1 0).trans rfl; have hxb11_1_w24 : w24.cell? ⟨w10.heap.size, 1, none⟩ = some (.slice Aw10 X3.length cw10) := (blk_cell (HLw24.out.get 5 rfl).1 1).trans rfl) | (go_at_call 46; (with_reducible refine (impl_FactorOfProduct.calls k X0 _ _ X1 X2 _ _ X3 a2 X4 X5 _ (Kd.S_reads' (HLw24.out.get 1 rfl)).2.2 (Kd.S_reads' (HLw24.out.get 1 rfl)).2.1 (Kd.S_reads' (HLw24.out.get 0 rfl)).2.2 (Kd.S_reads' (HLw24.out.get 0 rfl)).2.1 F5.out).mono ?_); rintro e w25 ⟨vw25_0, rfl, how25_0, hbw25⟩; obtain ⟨Aw25, cw25, rfl⟩ := Kd.R_slice how25_0; obtain ⟨low25, hiw25, hlw25⟩ := Live.make_R HLw24.out hbw25 how25_0 (below_size (HBw24.out)); have HLw25 := Aside0.mk hlw25; clear hlw25 how25_0; have HBw25 := Aside0.mk (below_step (HBw24.out) (hbw25)); clear hbw25; have hxb3_0_w25 : w25.cell? ⟨W.heap.size, 0, none⟩ = some (.int .i64 a0) := (blk_cell (HLw25.out.get 14 rfl).1 0).trans rfl; have hxb3_1_w25 : w25.cell? ⟨W.heap.size, 1, none⟩ = some (.slice A0 l0.length c0) := (blk_cell (HLw25.out.get 14 rfl).1 1).trans rfl; have hxb4_0_w25 : w25.cell? ⟨W.heap.size + 1, 0, none⟩ = some (.int .i64 a1) := (blk_cell (HLw25.out.get 13 rfl).1 0).trans rfl; have hxb4_1_w25 : w25.cell? ⟨W.heap.size + 1, 1, none⟩ = some (.slice A1 l1.length c1) := (blk_cell (HLw25.out.get 13 rfl).1 1).trans rfl; have hxb10_0_w25 : w25.cell? ⟨w8.heap.size, 0, none⟩ = some (.int .i64 X0) := (blk_cell (HLw25.out.get 8 rfl).1 0).trans rfl; have hxb10_1_w25 : w25.cell? ⟨w8.heap.size, 1, none⟩ = some (.slice Aw8 X1.length cw8) := (blk_cell (HLw25.out.get 8 rfl).1 1).trans rfl; have hxb11_0_w25 : w25.cell? ⟨w10.heap.size, 0, none⟩ = some (.int .i64 X2) := (blk_cell (HLw25.out.get 6 rfl).1 0).trans rfl; have hxb11_1_w25 : w25.cell? ⟨w10.heap.size, 1, none⟩ = some (.slice Aw10 X3.length cw10) := (blk_cell (HLw25.out.get 6 rfl).1 1).trans rfl))
  go_wp2_with fail
  (with_reducible refine (laws_eqIntS.calls k _ _ X4 _ _ X4 true _ (Kd.R_reads' (HLw25.out.get 0 rfl)).2.2 (Kd.R_reads' (HLw25.out.get 0 rfl)).2.1 (Kd.R_reads' (HLw25.out.get 10 rfl)).2.2 (Kd.R_reads' (HLw25.out.get 10 rfl)).2.1 F6.out).mono ?_)
  rintro e w26 ⟨rfl, hbw26⟩
  have HLw26 := Aside0.mk (HLw25.out.below hbw26.below)
  have HBw26 := Aside0.mk (below_step (HBw25.out) (hbw26.below))
  clear hbw26
  have hxb3_0_w26 : w26.cell? ⟨W.heap.size, 0, none⟩ = some (.int .i64 a0) := (blk_cell (HLw26.out.get 14 rfl).1 0).trans rfl
  have hxb3_1_w26 : w26.cell? ⟨W.heap.size, 1, none⟩ = some (.slice A0 l0.length c0) := (blk_cell (HLw26.out.get 14 rfl).1 1).trans rfl
  have hxb4_0_w26 : w26.cell? ⟨W.heap.size + 1, 0, none⟩ = some (.int .i64 a1) := (blk_cell (HLw26.out.get 13 rfl).1 0).trans rfl
  have hxb4_1_w26 : w26.cell? ⟨W.heap.size + 1, 1, none⟩ = some (.slice A1 l1.length c1) := (blk_cell (HLw26.out.get 13 rfl).1 1).trans rfl
  have hxb10_0_w26 : w26.cell? ⟨w8.heap.size, 0, none⟩ = some (.int .i64 X0) := (blk_cell (HLw26.out.get 8 rfl).1 0).trans rfl
  have hxb10_1_w26 : w26.cell? ⟨w8.heap.size, 1, none⟩ = some (.slice Aw8 X1.length cw8) := (blk_cell (HLw26.out.get 8 rfl).1 1).trans rfl
  have hxb11_0_w26 : w26.cell? ⟨w10.heap.size, 0, none⟩ = some (.int .i64 X2) := (blk_cell (HLw26.out.get 6 rfl).1 0).trans rfl
  have hxb11_1_w26 : w26.cell? ⟨w10.heap.size, 1, none⟩ = some (.slice Aw10 X3.length cw10) := (blk_cell (HLw26.out.get 6 rfl).1 1).trans rfl
  go_wp2_with fail
  have r_ := (Kd.R_reads' (HLw26.out.get 5 rfl)).2
  have q_ := laws_heldIntS.calls k _ _ (asc X4.length 1) 1 (1 + (X4.length : Int)) _ (by first | exact r_.2 | (rw [asc_length]; exact r_.2)) (by first | exact r_.1 | (rw [asc_length]; exact r_.1)) F10.out
  rw [asc_length] at q_
  (with_reducible refine q_.mono ?_)
  clear q_ r_
  rintro e w27 ⟨rfl, hbw27⟩
  have HLw27 := Aside0.mk (HLw26.out.below hbw27.below)
  have HBw27 := Aside0.mk (below_step (HBw26.out) (hbw27.below))
  clear hbw27
  have hxb3_0_w27 : w27.cell? ⟨W.heap.size, 0, none⟩ = some (.int .i64 a0) := (blk_cell (HLw27.out.get 14 rfl).1 0).trans rfl
  have hxb3_1_w27 : w27.cell? ⟨W.heap.size, 1, none⟩ = some (.slice A0 l0.length c0) := (blk_cell (HLw27.out.get 14 rfl).1 1).trans rfl
  have hxb4_0_w27 : w27.cell? ⟨W.heap.size + 1, 0, none⟩ = some (.int .i64 a1) := (blk_cell (HLw27.out.get 13 rfl).1 0).trans rfl
  have hxb4_1_w27 : w27.cell? ⟨W.heap.size + 1, 1, none⟩ = some (.slice A1 l1.length c1) := (blk_cell (HLw27.out.get 13 rfl).1 1).trans rfl
  have hxb10_0_w27 : w27.cell? ⟨w8.heap.size, 0, none⟩ = some (.int .i64 X0) := (blk_cell (HLw27.out.get 8 rfl).1 0).trans rfl
  have hxb10_1_w27 : w27.cell? ⟨w8.heap.size, 1, none⟩ = some (.slice Aw8 X1.length cw8) := (blk_cell (HLw27.out.get 8 rfl).1 1).trans rfl
  have hxb11_0_w27 : w27.cell? ⟨w10.heap.size, 0, none⟩ = some (.int .i64 X2) := (blk_cell (HLw27.out.get 6 rfl).1 0).trans rfl
  have hxb11_1_w27 : w27.cell? ⟨w10.heap.size, 1, none⟩ = some (.slice Aw10 X3.length cw10) := (blk_cell (HLw27.out.get 6 rfl).1 1).trans rfl
  go_wp2
  go_ret
  exact ⟨rfl, HBw27.out⟩
end Go.Proofs.Ytijnfpfijgmopaa
