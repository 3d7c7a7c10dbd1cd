/- Part 5 of the proof of the law FnExactImageOf: functions and lists that say what the Go code computes, and that it does; no condition beside those that each theorem states. -/
import Derived.Test.YtnnbgfphinemfaaZFnExactImageOfd
import Derived.Test.YtnnbgfphinemfaaZFnExactImageOfWSized
import Derived.Deep.RegionHeld3
namespace Go.Proofs.Ytnnbgfphinemfaa
open Go.ChangeShapes Go.WideShapes
end Go.Proofs.Ytnnbgfphinemfaa
namespace Go.Proofs.Ytnnbgfphinemfaa.Pure
open Go.RowKit Go.Proofs.Ytnnbgfphinemfaa.Q Go.Proofs.YtnnbgfphinemfaaW.PrintWords Go.Proofs.YtnnbgfphinemfaaW.PrintLast
set_option linter.unusedVariables false
set_option linter.unusedSimpArgs false
theorem Ev.pos {α : Type} {c : Prop} [Decidable c] {f g : Nat → Option α} {r : α} (h : c) (hf : Ev f r) : Ev (fun k => if c then f k else g k) r := by
 simpa only [if_pos h] using hf
theorem Ev.neg {α : Type} {c : Prop} [Decidable c] {f g : Nat → Option α} {r : α} (h : ¬ c) (hg : Ev g r) : Ev (fun k => if c then f k else g k) r := by
 simpa only [if_neg h] using hg
theorem Ev.ite {α : Type} {c : Prop} [Decidable c] {f g : Nat → Option α} {r : α} (h : c → Ev f r) (h' : ¬ c → Ev g r) : Ev (fun k => if c then f k else g k) r := by
 by_cases hc : c
 ·exact Ev.pos hc (h hc)
 ·exact Ev.neg hc (h' hc)
theorem Ev.bind1 {α β : Type} {x : α} {f : Nat → α → Option β} {r : β} (k : Ev (fun n => f n x) r) : Ev (fun n => (some x).bind (f n)) r := k
theorem _root_.Go.Proofs.YtnnbgfphinemfaaW.PrintWords.Ev.to {α : Type} {g : Nat → Option α} {r s : α} (h : Ev g r) (e : r = s) : Ev g s := e ▸ h
theorem w64 {x : Int} (h1 : -9223372036854775808 ≤ x) (h2 : x ≤ 9223372036854775807) : wrap64 x = x := by unfold wrap64; omega
theorem w64s {i n : Nat} (h : i < n) (hn : n ≤ 9223372036854775807) : wrap64 ((i : Int) + 1) = ((i + 1 : Nat) : Int) := by unfold wrap64; omega
def gd (l : List Int) (i : Nat) : Int := l.getD i 0
theorem rdn (xs : List Int) (i : Nat) : rd xs (i : Int) = gd xs i := by simp [rd, gd]
theorem gd_lt {xs : List Int} {i : Nat} (h : i < xs.length) : gd xs i = xs[i] := by simp [gd, List.getD, h]
theorem ext_gd {a b : List Int} (h : a.length = b.length) (e : ∀ i, i < a.length → gd a i = gd b i) : a = b := by
 apply List.ext_getElem h
 intro i h1 h2
 have := e i h1
 rwa [gd_lt h1, gd_lt h2] at this
theorem take_snoc (l : List Int) {i : Nat} (h : i < l.length) : l.take i ++ [gd l i] = l.take (i + 1) := by
 rw [gd_lt h, List.take_append_getElem]
theorem _root_.Go.Proofs.YtnnbgfphinemfaaW.PrintWords.Ev.and {α β : Type} {g : Nat → Option α} {f : Nat → Option β} {r : α} {s : β} (h : Ev g r) (h' : Ev f s) : ∃ K, ∀ k, K ≤ k → g k = some r ∧ f k = some s := by
 obtain ⟨K, h⟩ := h
 obtain ⟨K', h'⟩ := h'
 exact ⟨max K K', fun k hk => ⟨h k (by omega), h' k (by omega)⟩⟩
def Evs (P : Nat → Prop) : Prop := ∃ K, ∀ k, K ≤ k → P k
theorem Evs.of {α : Type} {g : Nat → Option α} {r : α} (h : Ev g r) : Evs (fun k => g k = some r) := h
theorem Evs.and {P Q : Nat → Prop} (h : Evs P) (h' : Evs Q) : Evs (fun k => P k ∧ Q k) := by
 obtain ⟨K, h⟩ := h
 obtain ⟨K', h'⟩ := h'
 exact ⟨max K K', fun k hk => ⟨h k (by omega), h' k (by omega)⟩⟩
theorem Evs.true {P : Prop} (h : P) : Evs (fun _ => P) := ⟨0, fun _ _ => h⟩
theorem Evs.ex {P : Nat → Prop} (h : Evs P) : ∃ k, P k := by
 obtain ⟨K, h⟩ := h
 exact ⟨K, h K (Nat.le_refl _)⟩
theorem drop_cons {α : Type} (l : List α) (z : α) {i : Nat} (h : i < l.length) : l.drop i = l.getD i z :: l.drop (i + 1) := by
 rw [List.drop_eq_getElem_cons h]
 simp [List.getD, h]
theorem all_loop {α : Type} (l : List α) (z : α) (p : α → Bool) (L : Nat → Int → Option Bool) (hend : Ev (fun k => L k (l.length : Int)) true)
  (hT : ∀ (i : Nat) (r : Bool), i < l.length → p (l.getD i z) = true → Ev (fun k => L k ((i + 1 : Nat) : Int)) r → Ev (fun k => L k (i : Int)) r)
  (hF : ∀ i : Nat, i < l.length → p (l.getD i z) = false → Ev (fun k => L k (i : Int)) false) : ∀ (d i : Nat), i + d = l.length → Ev (fun k => L k (i : Int)) ((l.drop i).all p) := by
 intro d
 induction d with
 | zero =>
  intro i hi
  have : i = l.length := by omega
  subst this
  simpa using hend
 | succ d ih =>
  intro i hi
  rw [drop_cons l z (by omega), List.all_cons]
  cases hp : p (l.getD i z) with
  | true => simpa using hT i _ (by omega) hp (ih (i + 1) (by omega))
  | false => simpa using hF i (by omega) hp
theorem map_loop {α β γ : Type} (l : List α) (z : α) (f : α → β) (L : Nat → List β → Int → Option γ) (fin : γ) (hend : Ev (fun k => L k (l.map f) (l.length : Int)) fin)
  (hstep : ∀ (i : Nat) (out : List β), i < l.length → out.length = i → Ev (fun k => L k (out ++ [f (l.getD i z)]) ((i + 1 : Nat) : Int)) fin → Ev (fun k => L k out (i : Int)) fin) :
  ∀ (d i : Nat), i + d = l.length → Ev (fun k => L k ((l.take i).map f) (i : Int)) fin := by
 intro d
 induction d with
 | zero =>
  intro i hi
  have : i = l.length := by omega
  subst this
  simpa using hend
 | succ d ih =>
  intro i hi
  refine hstep i _ (by omega) (by simp; omega) ?_
  have := ih (i + 1) (by omega)
  rw [List.take_succ_eq_append_getElem (by omega), List.map_append] at this
  simpa [List.getD, show i < l.length by omega] using this
theorem set_loop {α β γ : Type} (l : List α) (z : α) (f : α → β) (L : Nat → List β → Int → Option γ) (fin : γ) (hend : Ev (fun k => L k (l.map f) (l.length : Int)) fin)
  (hstep : ∀ (i : Nat) (out : List β), i < l.length → out.length = l.length → Ev (fun k => L k (out.set i (f (l.getD i z))) ((i + 1 : Nat) : Int)) fin → Ev (fun k => L k out (i : Int)) fin) :
  ∀ (d i : Nat) (out : List β), i + d = l.length → out.length = l.length → (∀ j, j < i → out[j]? = (l.map f)[j]?) → Ev (fun k => L k out (i : Int)) fin := by
 intro d
 induction d with
 | zero =>
  intro i out hi ho h
  have : i = l.length := by omega
  subst this
  have : out = l.map f := by
   apply List.ext_getElem?
   intro j
   rcases Nat.lt_or_ge j l.length with h1 | h1
   ·exact h j h1
   ·rw [List.getElem?_eq_none (by omega), List.getElem?_eq_none (by simpa using h1)]
  rw [this]
  exact hend
 | succ d ih =>
  intro i out hi ho h
  refine hstep i out (by omega) ho (ih (i + 1) _ (by omega) (by simpa using ho) (fun j hj => ?_))
  rw [List.getElem?_set]
  by_cases e : i = j
  ·subst e
   rw [if_pos rfl, if_pos (by omega)]
   simp [List.getD, show i < l.length by omega]
  ·rw [if_neg e]
   exact h j (by omega)
def partAt (p : List Int) (i : Nat) : Bool := decide (0 ≤ gd p i) && (decide (gd p i ≤ (i : Int)) && decide (gd p (gd p i).toNat = gd p i))
def partB (n : Int) (p : List Int) : Bool := decide ((p.length : Int) = n) && (List.range' 0 p.length).all (partAt p)
def sizeB (n : Int) : Bool := decide (1 ≤ n ∧ n ≤ 8)
theorem spec_l1In_eq (a b c : Int) : spec_l1In.f a b c = some (decide (b ≤ a ∧ a ≤ c)) := by
 unfold spec_l1In.f
 split
 ·congr 1; simp; omega
 ·congr 1; simp; omega
theorem asc_at {n i : Nat} (a : Int) (h : i < n) : gd (asc n a) i = a + i := by simp [asc, gd, List.getD, h]
theorem toIntS_loop (l : List Int) (hl : l.length ≤ 35184372088832) : ∀ (d i : Nat) (x : List Int), i + d = l.length → x.length = l.length → (∀ j, j < i → gd x j = gd l j) → Ev (fun k => laws_toIntS.l0 k l x (i : Int)) l := by
 intro d
 induction d with
 | zero =>
  intro i x hi hx h
  refine Ev.step (fun _ => laws_toIntS.l0.eq_2 ..) ?_
  refine Ev.neg (by omega) ?_
  have : x = l := by
   apply List.ext_getElem hx
   intro j h1 h2
   have := h j (by omega)
   simpa [gd, List.getD, h1, h2] using this
  subst this
  exact Ev.now _
 | succ d ih =>
  intro i x hi hx h
  refine Ev.step (fun _ => laws_toIntS.l0.eq_2 ..) ?_
  refine Ev.pos (by omega) ?_
  refine Ev.pos (by omega) ?_
  refine Ev.pos (by omega) ?_
  rw [w64s (n := l.length) (by omega) (by omega), rdn, Int.toNat_natCast]
  refine ih (i + 1) _ (by omega) (by simpa using hx) ?_
  intro j hj
  by_cases e : j = i
  ·subst e
   simp [gd, List.getD, show j < x.length by omega]
  ·have := h j (by omega)
   simp only [gd, List.getD] at this ⊢
   rw [List.getElem?_set_ne (by omega)]
   exact this
theorem toIntS_ev (l : List Int) (hl : l.length ≤ 35184372088832) : Ev (fun k => laws_toIntS.f k l) l := by
 unfold laws_toIntS.f
 refine Ev.pos (by omega) ?_
 refine Ev.pos (by omega) ?_
 exact toIntS_loop l hl l.length 0 _ (by omega) (by simp) (fun j hj => by omega)
theorem eqIntS_loop (a b : List Int) (hb : b.length = a.length) (hl : a.length ≤ 35184372088832) : ∀ (d i : Nat), i + d = a.length → Ev (fun k => laws_eqIntS.l0 k a b (i : Int)) (decide (a.drop i = b.drop i)) := by
 intro d
 induction d with
 | zero =>
  intro i hi
  refine Ev.step (fun _ => laws_eqIntS.l0.eq_2 ..) ?_
  refine Ev.neg (by omega) ?_
  refine (Ev.now _).to ?_
  rw [List.drop_of_length_le (by omega), List.drop_of_length_le (by omega)]
  simp
 | succ d ih =>
  intro i hi
  refine Ev.step (fun _ => laws_eqIntS.l0.eq_2 ..) ?_
  refine Ev.pos (by omega) ?_
  refine Ev.pos (by omega) ?_
  refine Ev.pos (by omega) ?_
  rw [w64s (n := a.length) (by omega) (by omega), rdn, rdn]
  have e1 : a.drop i = gd a i :: a.drop (i + 1) := by rw [gd_lt (by omega)]; exact List.drop_eq_getElem_cons (by omega)
  have e2 : b.drop i = gd b i :: b.drop (i + 1) := by rw [gd_lt (by omega)]; exact List.drop_eq_getElem_cons (by omega)
  refine Ev.ite (fun h => ?_) (fun h => ?_)
  ·refine (ih (i + 1) (by omega)).to ?_
   rw [e1, e2, h]
   simp
  ·refine (Ev.now _).to ?_
   rw [e1, e2]
   simp [h]
theorem eqIntS_ev (a b : List Int) (hl : a.length ≤ 35184372088832) : Ev (fun k => laws_eqIntS.f k a b) (decide (a = b)) := by
 unfold laws_eqIntS.f
 refine Ev.ite (fun h => ?_) (fun h => ?_)
 ·exact eqIntS_loop a b (by omega) hl a.length 0 (by omega)
 ·refine (Ev.now _).to ?_
  have : a ≠ b := fun e => h (by rw [e])
  simp [this]
theorem eqIntS_same (a : List Int) (hl : a.length ≤ 35184372088832) : Ev (fun k => laws_eqIntS.f k a a) true := (eqIntS_ev a a hl).to (by simp)
abbrev IOp := S75
abbrev LOp := S110
theorem rdO_n (xs : List IOp) (i : Nat) : rd_T75 xs (i : Int) = xs.getD i z75 := by simp [rd_T75]
theorem rdL_n (xs : List LOp) (i : Nat) : rd_T110 xs (i : Int) = xs.getD i z110 := by simp [rd_T110]
def inB (n x : Int) : Bool := decide (0 ≤ x ∧ x < n)
def powI (n k : Int) : Int := n ^ k.toNat
def opB (n a : Int) (l : List Int) : Bool := decide (0 ≤ a ∧ a ≤ 3) && (decide ((l.length : Int) = powI n a) && l.all (inB n))
def algB (n : Int) (ops : List IOp) : Bool := sizeB n && (decide (ops.length ≤ 4) && ops.all fun x => opB n x.f0 x.f1)
theorem impl_power_ev (n k : Int) (hn : 1 ≤ n ∧ n ≤ 8) (hk : 0 ≤ k ∧ k ≤ 3) : Ev (fun f => impl_power.f f n k) (powI n k) := by
 have h1 : n = 1 ∨ n = 2 ∨ n = 3 ∨ n = 4 ∨ n = 5 ∨ n = 6 ∨ n = 7 ∨ n = 8 := by omega
 have h2 : k = 0 ∨ k = 1 ∨ k = 2 ∨ k = 3 := by omega
 refine Ev.of (fun f => impl_power.mono n k f) (k := 5) ?_
 rcases h1 with rfl | rfl | rfl | rfl | rfl | rfl | rfl | rfl <;> rcases h2 with rfl | rfl | rfl | rfl <;> decide +kernel
theorem spec_l2Pow_ev (n k : Int) (hn : 1 ≤ n ∧ n ≤ 8) (hk : 0 ≤ k ∧ k ≤ 3) : Ev (fun f => spec_l2Pow.f f n k) (powI n k) := by
 have h1 : n = 1 ∨ n = 2 ∨ n = 3 ∨ n = 4 ∨ n = 5 ∨ n = 6 ∨ n = 7 ∨ n = 8 := by omega
 have h2 : k = 0 ∨ k = 1 ∨ k = 2 ∨ k = 3 := by omega
 refine Ev.of (fun f => spec_l2Pow.mono n k f) (k := 5) ?_
 rcases h1 with rfl | rfl | rfl | rfl | rfl | rfl | rfl | rfl <;> rcases h2 with rfl | rfl | rfl | rfl <;> decide +kernel
theorem impl_inSize_ev (l : List Int) (n : Int) (hl : l.length ≤ 35184372088832) : Ev (fun k => impl_inSize.f k l n) (l.all (inB n)) := by
 unfold impl_inSize.f
 refine all_loop l 0 (inB n) (fun k i => impl_inSize.l0 k n l (l.length : Int) i) ?_ ?_ ?_ l.length 0 (by omega)
 ·exact Ev.step (fun _ => impl_inSize.l0.eq_2 ..) (Ev.neg (by omega) (Ev.now _))
 ·intro i r hi hp h
  have hp' := of_decide_eq_true hp
  refine Ev.step (fun _ => impl_inSize.l0.eq_2 ..) ?_
  rw [w64s (n := l.length) (by omega) (by omega), rdn]
  change 0 ≤ gd l i ∧ gd l i < n at hp'
  exact Ev.pos (by omega) (Ev.pos (by omega) (Ev.pos (by omega) (Ev.neg (by omega) (Ev.neg (by omega) h))))
 ·intro i hi hp
  have hp' := of_decide_eq_false hp
  change ¬ (0 ≤ gd l i ∧ gd l i < n) at hp'
  refine Ev.step (fun _ => impl_inSize.l0.eq_2 ..) ?_
  rw [rdn]
  refine Ev.pos (by omega) (Ev.pos (by omega) (Ev.pos (by omega) (Ev.ite (fun _ => Ev.now _) (fun h1 => Ev.pos (by omega) (Ev.now _)))))
theorem impl_isOp_ev (n a : Int) (l : List Int) (hn : sizeB n = true) (hl : l.length ≤ 35184372088832) : Ev (fun k => impl_isOp.f k a l n) (opB n a l) := by
 have hn' := of_decide_eq_true hn
 unfold impl_isOp.f opB
 refine Ev.ite (fun h1 => Ev.ite (fun h2 => ?_) (fun h2 => (Ev.now _).to ?_)) (fun h1 => (Ev.now _).to ?_)
 ·refine (impl_power_ev n a hn' ⟨by omega, by omega⟩).bind (Ev.ite (fun h3 => ?_) (fun h3 => (Ev.now _).to ?_))
  ·refine (impl_inSize_ev l n hl).bind ((Ev.now _).to ?_)
   rw [decide_eq_true (show 0 ≤ a ∧ a ≤ 3 by omega), decide_eq_true h3]
   simp
  ·rw [decide_eq_false h3]
   simp
 ·rw [decide_eq_false (show ¬ (0 ≤ a ∧ a ≤ 3) by omega)]
  simp
 ·rw [decide_eq_false (show ¬ (0 ≤ a ∧ a ≤ 3) by omega)]
  simp
theorem spec_l2Op_ev (n a : Int) (l : List Int) (hn : sizeB n = true) (hl : l.length ≤ 35184372088832) : Ev (fun k => spec_l2Op.f k n a l) (opB n a l) := by
 have hn' := of_decide_eq_true hn
 have loop : Ev (fun k => spec_l2Op.l0 k n 0 a l) (l.all (inB n)) := by
  refine all_loop l 0 (inB n) (fun k i => spec_l2Op.l0 k n i a l) ?_ ?_ ?_ l.length 0 (by omega)
  ·exact Ev.step (fun _ => spec_l2Op.l0.eq_2 ..) (Ev.neg (by omega) (Ev.now _))
  ·intro i r hi hp h
   have hp' := of_decide_eq_true hp
   change 0 ≤ gd l i ∧ gd l i < n at hp'
   refine Ev.step (fun _ => spec_l2Op.l0.eq_2 ..) ?_
   rw [w64s (n := l.length) (by omega) (by omega), rdn, spec_l1In_eq, w64 (by omega) (by omega)]
   refine Ev.pos (by omega) (Ev.pos (by omega) (Ev.bind1 (Ev.pos (decide_eq_true (by omega)) h)))
  ·intro i hi hp
   have hp' := of_decide_eq_false hp
   change ¬ (0 ≤ gd l i ∧ gd l i < n) at hp'
   refine Ev.step (fun _ => spec_l2Op.l0.eq_2 ..) ?_
   rw [rdn, spec_l1In_eq, w64 (by omega) (by omega)]
   refine Ev.pos (by omega) (Ev.pos (by omega) (Ev.bind1 (Ev.neg (by rw [decide_eq_true_eq]; omega) (Ev.now _))))
 unfold spec_l2Op.f opB
 rw [spec_l1In_eq]
 refine Ev.bind1 (Ev.ite (fun h1 => ?_) (fun h1 => ?_))
 ·have h1' := of_decide_eq_true h1
  refine (spec_l2Pow_ev n a hn' h1').bind ?_
  refine Ev.step (fun _ => spec_l2Op.j0.eq_2 ..) (Ev.ite (fun h2 => (Ev.now _).to ?_) (fun h2 => loop.to ?_))
  ·have : ¬ ((l.length : Int) = powI n a) := by simpa using h2
   simp [this]
  ·have : (l.length : Int) = powI n a := by simpa using h2
   rw [decide_eq_true h1', decide_eq_true this]
   simp
 ·refine Ev.step (fun _ => spec_l2Op.j0.eq_2 ..) (Ev.pos rfl ((Ev.now _).to ?_))
  simp at h1 ⊢
  omega
def fitO (ops : List IOp) : Prop := ops.length ≤ 8796093022208 ∧ ∀ x ∈ ops, x.f1.length ≤ 1048576
theorem fitO_at {ops : List IOp} (h : fitO ops) {i : Nat} (hi : i < ops.length) : (ops.getD i z75).f1.length ≤ 1048576 := by
 refine h.2 _ ?_
 rw [List.getD_eq_getElem?_getD, List.getElem?_eq_getElem hi]
 exact List.getElem_mem hi
theorem impl_IsAlgebra_ev (n : Int) (ops : List IOp) (hf : fitO ops) : Ev (fun k => impl_IsAlgebra.f k n ops) (algB n ops) := by
 have hl := hf.1
 have loop : sizeB n = true → Ev (fun k => impl_IsAlgebra.l0 k ops (ops.length : Int) 0 n ops) (ops.all fun x => opB n x.f0 x.f1) := by
  intro hn
  refine all_loop ops z75 (fun x => opB n x.f0 x.f1) (fun k i => impl_IsAlgebra.l0 k ops (ops.length : Int) i n ops) ?_ ?_ ?_ ops.length 0 (by omega)
  ·exact Ev.step (fun _ => impl_IsAlgebra.l0.eq_2 ..) (Ev.neg (by omega) (Ev.now _))
  ·intro i r hi hp h
   refine Ev.step (fun _ => impl_IsAlgebra.l0.eq_2 ..) ?_
   rw [w64s (n := ops.length) (by omega) (by omega), rdO_n]
   have he := impl_isOp_ev n (ops.getD i z75).f0 (ops.getD i z75).f1 hn (by have := fitO_at hf hi; omega)
   rw [hp] at he
   exact Ev.pos (by omega) (Ev.pos (by omega) (Ev.pos (by omega) (he.bind (Ev.pos rfl h))))
  ·intro i hi hp
   refine Ev.step (fun _ => impl_IsAlgebra.l0.eq_2 ..) ?_
   rw [rdO_n]
   have he := impl_isOp_ev n (ops.getD i z75).f0 (ops.getD i z75).f1 hn (by have := fitO_at hf hi; omega)
   rw [hp] at he
   exact Ev.pos (by omega) (Ev.pos (by omega) (Ev.pos (by omega) (he.bind (Ev.neg (by decide) (Ev.now _)))))
 unfold impl_IsAlgebra.f
 have no : sizeB n = false → algB n ops = false := fun h => by simp [algB, h]
 refine Ev.ite (fun h => ?_) (fun h => Ev.ite (fun h' => ?_) (fun h' => ?_))
 ·exact Ev.step (fun _ => impl_IsAlgebra.j0.eq_2 ..) (Ev.pos rfl ((Ev.now _).to (no (decide_eq_false (by omega))).symm))
 ·exact Ev.step (fun _ => impl_IsAlgebra.j0.eq_2 ..) (Ev.pos rfl ((Ev.now _).to (no (decide_eq_false (by omega))).symm))
 ·have hn : sizeB n = true := decide_eq_true (by omega)
  refine Ev.step (fun _ => impl_IsAlgebra.j0.eq_2 ..) (Ev.ite (fun h2 => (Ev.now _).to ?_) (fun h2 => (loop hn).to ?_))
  ·have := of_decide_eq_true h2
   simp [algB, show ¬ ops.length ≤ 4 by omega]
  ·have : ops.length ≤ 4 := by simp at h2; omega
   simp [algB, hn, this]
theorem spec_l2Good_ev (n : Int) (ops : List IOp) (hf : fitO ops) : Ev (fun k => spec_l2Good.f k n ops) (algB n ops) := by
 have hl := hf.1
 have loop : sizeB n = true → Ev (fun k => spec_l2Good.l0 k 0 n ops) (ops.all fun x => opB n x.f0 x.f1) := by
  intro hn
  refine all_loop ops z75 (fun x => opB n x.f0 x.f1) (fun k i => spec_l2Good.l0 k i n ops) ?_ ?_ ?_ ops.length 0 (by omega)
  ·exact Ev.step (fun _ => spec_l2Good.l0.eq_2 ..) (Ev.neg (by omega) (Ev.now _))
  ·intro i r hi hp h
   refine Ev.step (fun _ => spec_l2Good.l0.eq_2 ..) ?_
   rw [w64s (n := ops.length) (by omega) (by omega), rdO_n]
   have he := spec_l2Op_ev n (ops.getD i z75).f0 (ops.getD i z75).f1 hn (by have := fitO_at hf hi; omega)
   rw [hp] at he
   exact Ev.pos (by omega) (Ev.pos (by omega) (he.bind (Ev.pos rfl h)))
  ·intro i hi hp
   refine Ev.step (fun _ => spec_l2Good.l0.eq_2 ..) ?_
   rw [rdO_n]
   have he := spec_l2Op_ev n (ops.getD i z75).f0 (ops.getD i z75).f1 hn (by have := fitO_at hf hi; omega)
   rw [hp] at he
   exact Ev.pos (by omega) (Ev.pos (by omega) (he.bind (Ev.neg (by decide) (Ev.now _))))
 unfold spec_l2Good.f
 rw [spec_l1In_eq]
 refine Ev.bind1 (Ev.ite (fun h => ?_) (fun h => ?_))
 ·refine Ev.step (fun _ => spec_l2Good.j0.eq_2 ..) (Ev.ite (fun h2 => (Ev.now _).to ?_) (fun h2 => (loop h).to ?_))
  ·have := of_decide_eq_true h2
   simp [algB, show ¬ ops.length ≤ 4 by omega]
  ·have : ops.length ≤ 4 := by simp at h2; omega
   have h' : sizeB n = true := h
   simp [algB, h', this]
 ·refine Ev.step (fun _ => spec_l2Good.j0.eq_2 ..) (Ev.pos rfl ((Ev.now _).to ?_))
  have h' : sizeB n = false := by simpa [sizeB] using h
  simp [algB, h']
def argsM (n : Int) : Nat → Int → List Int
 | 0, _ => []
 | k + 1, i => argsM n k (i / n) ++ [i % n]
def valM (n : Int) (l : List Int) : Int := l.foldl (fun at_ x => at_ * n + x) 0
theorem argsM_length (n : Int) : ∀ (k : Nat) (i : Int), (argsM n k i).length = k := by
 intro k
 induction k with
 | zero => intro i; rfl
 | succ k ih => intro i; simp [argsM, ih]
theorem argsM_in {n : Int} (hn : 1 ≤ n) : ∀ (k : Nat) (i : Int), 0 ≤ i → ∀ x ∈ argsM n k i, 0 ≤ x ∧ x < n := by
 intro k
 induction k with
 | zero => intro i _ x hx; simp [argsM] at hx
 | succ k ih =>
  intro i hi x hx
  simp only [argsM, List.mem_append, List.mem_singleton] at hx
  rcases hx with hx | rfl
  ·exact ih _ (Int.ediv_nonneg hi (by omega)) x hx
  ·exact ⟨Int.emod_nonneg _ (by omega), Int.emod_lt_of_pos _ (by omega)⟩
theorem valM_snoc (n : Int) (l : List Int) (x : Int) : valM n (l ++ [x]) = valM n l * n + x := by simp [valM]
theorem rev_ind {α : Type} {P : List α → Prop} (h0 : P []) (h1 : ∀ l x, P l → P (l ++ [x])) (l : List α) : P l := by
 have key : ∀ (n : Nat) (l : List α), l.length = n → P l := by
  intro n
  induction n with
  | zero =>
   intro l hl
   have : l = [] := List.eq_nil_of_length_eq_zero hl
   subst this
   exact h0
  | succ n ih =>
   intro l hl
   have hne : l ≠ [] := fun h => by subst h; simp at hl
   rw [← List.dropLast_concat_getLast hne]
   exact h1 _ _ (ih _ (by simp [hl]))
 exact key l.length l rfl
theorem valM_in {n : Int} (hn : 1 ≤ n) (l : List Int) : (∀ x ∈ l, 0 ≤ x ∧ x < n) → 0 ≤ valM n l ∧ valM n l < n ^ l.length := by
 induction l using rev_ind with
 | h0 => intro _; simp [valM]
 | h1 l x ih =>
  intro h
  obtain ⟨h1, h2⟩ := ih (fun y hy => h y (by simp [hy]))
  obtain ⟨h3, h4⟩ := h x (by simp)
  rw [valM_snoc, List.length_append, List.length_singleton, Int.pow_succ]
  have h5 : 0 ≤ valM n l * n := Int.mul_nonneg h1 (by omega)
  have h6 : (valM n l + 1) * n ≤ n ^ l.length * n := Int.mul_le_mul_of_nonneg_right (by omega) (by omega)
  rw [Int.add_mul] at h6
  omega
theorem div_in {i n : Int} (h0 : 0 ≤ i) (hi : i ≤ 1152921504606846976) (hn : 1 ≤ n) : wrap64 (Int.tdiv i n) = i / n ∧ 0 ≤ i / n ∧ i / n ≤ i := by
 have h1 : Int.tdiv i n = i / n := Int.tdiv_eq_ediv_of_nonneg h0
 have h2 : 0 ≤ i / n := Int.ediv_nonneg h0 (by omega)
 have h3 : i / n ≤ i := Int.ediv_le_self n h0
 exact ⟨by rw [h1, w64 (by omega) (by omega)], h2, h3⟩
theorem spec_l2Args_loop (n : Int) (hn : 1 ≤ n) (k : Nat) (hk : k ≤ 8796093022208) : ∀ (j : Nat) (i : Int) (x : List Int), j ≤ k → x.length = k → 0 ≤ i → i ≤ 1152921504606846976 → Ev (fun f => spec_l2Args.l0 f n i x ((j : Int) - 1)) (argsM n j i ++ x.drop j) := by
 intro j
 induction j with
 | zero =>
  intro i x _ _ _ _
  exact Ev.step (fun _ => spec_l2Args.l0.eq_2 ..) (Ev.neg (by omega) (Ev.now _))
 | succ j ih =>
  intro i x hj hx h0 hi
  obtain ⟨e1, e2, e3⟩ := div_in h0 hi hn
  refine Ev.step (fun _ => spec_l2Args.l0.eq_2 ..) (Ev.pos (by omega) (Ev.neg (by omega) (Ev.pos (by omega) (Ev.pos (by omega) ?_))))
  rw [e1, Int.tmod_eq_emod_of_nonneg h0, show (((j + 1 : Nat) : Int) - 1).toNat = j by omega, w64 (x := ((j + 1 : Nat) : Int) - 1 - 1) (by omega) (by omega), show (((j + 1 : Nat) : Int) - 1 - 1) = (j : Int) - 1 by omega]
  refine (ih (i / n) (x.set j (i % n)) (by omega) (by simpa using hx) e2 (by omega)).to ?_
  rw [argsM, List.append_assoc]
  congr 1
  rw [List.drop_eq_getElem_cons (by simp; omega), List.drop_set_of_lt (by omega)]
  simp
theorem spec_l2Args_ev (n : Int) (k : Nat) (i : Int) (hn : 1 ≤ n) (hk : k ≤ 3) (h0 : 0 ≤ i) (hi : i ≤ 1152921504606846976) : Ev (fun f => spec_l2Args.f f n (k : Int) i) (argsM n k i) := by
 unfold spec_l2Args.f
 refine Ev.pos (by omega) (Ev.pos (by omega) ?_)
 rw [w64 (by omega) (by omega)]
 exact (spec_l2Args_loop n hn k (by omega) k i _ (Nat.le_refl _) (by simp) h0 hi).to (by simp)
theorem grow_in {n a x : Int} (hn : 1 ≤ n ∧ n ≤ 8) (ha : 0 ≤ a ∧ a ≤ 1048576) (hx : 0 ≤ x ∧ x < n) : wrap64 (wrap64 (a * n) + x) = a * n + x := by
 have h1 : 0 ≤ a * n := Int.mul_nonneg ha.1 (by omega)
 have h2 : a * n ≤ 1048576 * 8 := Int.mul_le_mul ha.2 hn.2 (by omega) (by omega)
 rw [w64 (x := a * n) (by omega) (by omega), w64 (by omega) (by omega)]
theorem pow_le3 {n : Int} (hn : 1 ≤ n ∧ n ≤ 8) {k : Nat} (hk : k ≤ 3) : n ^ k ≤ 512 := by
 have h1 : n = 1 ∨ n = 2 ∨ n = 3 ∨ n = 4 ∨ n = 5 ∨ n = 6 ∨ n = 7 ∨ n = 8 := by omega
 have h2 : k = 0 ∨ k = 1 ∨ k = 2 ∨ k = 3 := by omega
 rcases h1 with rfl | rfl | rfl | rfl | rfl | rfl | rfl | rfl <;> rcases h2 with rfl | rfl | rfl | rfl <;> decide
theorem spec_l2Value_loop (n : Int) (ops : List IOp) (op : Nat) (args : List Int) (hn : 1 ≤ n ∧ n ≤ 8) (hop : op < ops.length) (ha : ∀ x ∈ args, 0 ≤ x ∧ x < n) (hl : args.length ≤ 3) (ht : n ^ args.length ≤ ((ops.getD op z75).f1.length : Int)) :
  ∀ (d i : Nat), i + d = args.length → Ev (fun k => spec_l2Value.l0 k (op : Int) args (valM n (args.take i)) (i : Int) n ops) (gd (ops.getD op z75).f1 (valM n args).toNat) := by
 have hv := valM_in hn.1 args ha
 intro d
 induction d with
 | zero =>
  intro i hi
  refine Ev.step (fun _ => spec_l2Value.l0.eq_2 ..) (Ev.neg (by omega) ?_)
  rw [List.take_of_length_le (by omega), rdO_n]
  exact Ev.pos (by omega) (Ev.pos (by omega) (Ev.pos hv.1 (Ev.pos (by omega) (Ev.now _))))
 | succ d ih =>
  intro i hi
  have hx := ha (gd args i) (by rw [gd_lt (by omega)]; exact List.getElem_mem _)
  have hvi := valM_in hn.1 (args.take i) (fun x h => ha x (List.mem_of_mem_take h))
  have h512 := pow_le3 hn (k := (args.take i).length) (by simp; omega)
  refine Ev.step (fun _ => spec_l2Value.l0.eq_2 ..) (Ev.pos (by omega) (Ev.pos (by omega) ?_))
  rw [rdn, grow_in hn ⟨hvi.1, by omega⟩ hx, w64s (n := args.length) (by omega) (by omega), ← valM_snoc, take_snoc _ (by omega)]
  exact ih (i + 1) (by omega)
theorem spec_l2Value_ev (n : Int) (ops : List IOp) (op : Nat) (args : List Int) (hn : 1 ≤ n ∧ n ≤ 8) (hop : op < ops.length) (ha : ∀ x ∈ args, 0 ≤ x ∧ x < n) (hl : args.length ≤ 3) (ht : n ^ args.length ≤ ((ops.getD op z75).f1.length : Int)) :
  Ev (fun k => spec_l2Value.f k n ops (op : Int) args) (gd (ops.getD op z75).f1 (valM n args).toNat) := by
 unfold spec_l2Value.f
 exact spec_l2Value_loop n ops op args hn hop ha hl ht args.length 0 (by omega)
theorem algB_size {n : Int} {ops : List IOp} (h : algB n ops = true) : 1 ≤ n ∧ n ≤ 8 := by
 simp [algB] at h
 exact of_decide_eq_true h.1
theorem algB_few {n : Int} {ops : List IOp} (h : algB n ops = true) : ops.length ≤ 4 := by
 simp [algB] at h
 exact h.2.1
theorem algB_op {n : Int} {ops : List IOp} (h : algB n ops = true) {i : Nat} (hi : i < ops.length) : opB n (ops.getD i z75).f0 (ops.getD i z75).f1 = true := by
 simp [algB] at h
 have := h.2.2 (ops.getD i z75) (by rw [List.getD_eq_getElem?_getD, List.getElem?_eq_getElem hi]; exact List.getElem_mem hi)
 exact this
theorem opB_of {n a : Int} {l : List Int} (h : opB n a l = true) : ∃ k : Nat, a = k ∧ k ≤ 3 ∧ (l.length : Int) = n ^ k ∧ ∀ x ∈ l, 0 ≤ x ∧ x < n := by
 simp only [opB, Bool.and_eq_true, decide_eq_true_eq, List.all_eq_true, inB] at h
 refine ⟨a.toNat, by omega, by omega, h.2.1, h.2.2⟩
def conv (l : List LOp) : List IOp := l.map fun x => ⟨x.f0, x.f1⟩
theorem conv_length (l : List LOp) : (conv l).length = l.length := by simp [conv]
theorem laws_szIntS_eq (l : List Int) (t : Int) (hl : l.length ≤ maxLen) (ht : 0 ≤ t ∧ t ≤ 1048576) : ∃ r, laws_szIntS.f l t = some r ∧ -1 ≤ r ∧ (0 ≤ r → r = t - l.length) ∧ (r < 0 → t < (l.length : Int)) := by
 unfold maxLen at hl
 unfold laws_szIntS.f
 rw [w64 (by omega) (by omega)]
 split
 ·exact ⟨-1, rfl, by omega, by omega, by omega⟩
 ·exact ⟨_, rfl, by omega, by omega, by omega⟩
theorem laws_szOp_eq (a : Int) (l : List Int) (t : Int) (hl : l.length ≤ maxLen) (ht : 0 ≤ t ∧ t ≤ 1048576) : ∃ r, laws_szOp.f a l t = some r ∧ -1 ≤ r ∧ (0 ≤ r → r = t - l.length) ∧ (r < 0 → t < (l.length : Int)) := by
 obtain ⟨r, hr, h1, h2, h3⟩ := laws_szIntS_eq l t hl ht
 unfold laws_szOp.f
 rw [hr]
 simp only [Option.bind_some]
 split
 ·exact ⟨-1, rfl, by omega, by omega, fun _ => h3 (by omega)⟩
 ·exact ⟨r, rfl, h1, h2, h3⟩
theorem laws_szOpS_loop (l : List LOp) (hl : l.length ≤ 1048576) (hg : ∀ x ∈ l, x.f1.length ≤ maxLen) : ∀ (d i : Nat) (t : Int), i + d = l.length → 0 ≤ t ∧ t ≤ 1048576 →
  ∃ r, Ev (fun k => laws_szOpS.l0 k l t (i : Int)) r ∧ -1 ≤ r ∧ r ≤ t ∧ (0 ≤ r → ∀ x ∈ l.drop i, (x.f1.length : Int) ≤ t) := by
 intro d
 induction d with
 | zero =>
  intro i t hi ht
  refine ⟨t, Ev.step (fun _ => laws_szOpS.l0.eq_2 ..) (Ev.neg (by omega) (Ev.now _)), by omega, by omega, fun _ x hx => ?_⟩
  rw [List.drop_of_length_le (by omega)] at hx
  simp at hx
 | succ d ih =>
  intro i t hi ht
  have hm : l.getD i z110 ∈ l := by
   rw [List.getD_eq_getElem?_getD, List.getElem?_eq_getElem (by omega)]
   exact List.getElem_mem _
  obtain ⟨r, hr, h1, h2, h3⟩ := laws_szOp_eq (l.getD i z110).f0 (l.getD i z110).f1 t (hg _ hm) ht
  by_cases hn : r < 0
  ·refine ⟨-1, Ev.step (fun _ => laws_szOpS.l0.eq_2 ..) ?_, by omega, by omega, by omega⟩
   rw [rdL_n, hr]
   exact Ev.pos (by omega) (Ev.pos (by omega) (Ev.bind1 (Ev.pos hn (Ev.now _))))
  ·have he := h2 (by omega)
   obtain ⟨q, hq, h4, h5, h6⟩ := ih (i + 1) r (by omega) (by omega)
   refine ⟨q, Ev.step (fun _ => laws_szOpS.l0.eq_2 ..) ?_, h4, by omega, fun h0 x hx => ?_⟩
   ·rw [rdL_n, hr, w64s (n := l.length) (by omega) (by omega)]
    exact Ev.pos (by omega) (Ev.pos (by omega) (Ev.bind1 (Ev.neg hn hq)))
   ·rw [drop_cons l z110 (by omega), List.mem_cons] at hx
    rcases hx with rfl | hx
    ·omega
    ·have := h6 h0 x hx
     omega
theorem laws_szOpS_ev (l : List LOp) (t : Int) (hl : l.length ≤ maxLen) (hg : ∀ x ∈ l, x.f1.length ≤ maxLen) (ht : 0 ≤ t ∧ t ≤ 1048576) :
  ∃ r, Ev (fun k => laws_szOpS.f k l t) r ∧ -1 ≤ r ∧ r ≤ t ∧ (0 ≤ r → (l.length : Int) ≤ t ∧ ∀ x ∈ l, (x.f1.length : Int) ≤ t) := by
 unfold maxLen at hl
 by_cases h : t - (l.length : Int) < 0
 ·refine ⟨-1, ?_, by omega, by omega, by omega⟩
  unfold laws_szOpS.f
  rw [w64 (by omega) (by omega)]
  exact Ev.pos h (Ev.now _)
 ·obtain ⟨r, h1, h2, h3, h4⟩ := laws_szOpS_loop l (by omega) hg l.length 0 (t - l.length) (by omega) (by omega)
  refine ⟨r, ?_, h2, by omega, fun h0 => ⟨by omega, fun x hx => ?_⟩⟩
  ·unfold laws_szOpS.f
   rw [w64 (by omega) (by omega)]
   exact Ev.neg h h1
  ·have := h4 h0 x (by simpa using hx)
   omega
theorem laws_szAlgebra_ev (s : Int) (l : List LOp) (t : Int) (hl : l.length ≤ maxLen) (hg : ∀ x ∈ l, x.f1.length ≤ maxLen) (ht : 0 ≤ t ∧ t ≤ 1048576) :
  ∃ r, Ev (fun k => laws_szAlgebra.f k s l t) r ∧ -1 ≤ r ∧ r ≤ t ∧ (0 ≤ r → (l.length : Int) ≤ t ∧ ∀ x ∈ l, (x.f1.length : Int) ≤ t) := by
 obtain ⟨r, h1, h2, h3, h4⟩ := laws_szOpS_ev l t hl hg ht
 unfold laws_szAlgebra.f
 by_cases h : r < 0
 ·exact ⟨-1, h1.bind (Ev.pos h (Ev.now _)), by omega, by omega, by omega⟩
 ·exact ⟨r, h1.bind (Ev.neg h (Ev.now _)), h2, h3, h4⟩
theorem laws_toOp_ev (a : Int) (l : List Int) (hl : l.length ≤ 35184372088832) : Ev (fun k => laws_toOp.f k a l) (a, l) := by
 unfold laws_toOp.f
 exact (toIntS_ev l hl).bind (Ev.now _)
theorem laws_toOpS_ev (l : List LOp) (hl : l.length ≤ 8796093022208) (hg : ∀ x ∈ l, x.f1.length ≤ 35184372088832) : Ev (fun k => laws_toOpS.f k l) (conv l) := by
 unfold laws_toOpS.f
 refine Ev.pos (by omega) (Ev.pos (by omega) ?_)
 refine set_loop l z110 (fun x : LOp => (⟨x.f0, x.f1⟩ : IOp)) (fun k out i => laws_toOpS.l0 k l out i) (conv l) ?_ ?_ l.length 0 _ (by omega) (by simp) (fun j hj => by omega)
 ·exact Ev.step (fun _ => laws_toOpS.l0.eq_2 ..) (Ev.neg (by omega) (Ev.now _))
 ·intro i out hi ho h
  have hm : l.getD i z110 ∈ l := by
   rw [List.getD_eq_getElem?_getD, List.getElem?_eq_getElem (by omega)]
   exact List.getElem_mem _
  refine Ev.step (fun _ => laws_toOpS.l0.eq_2 ..) ?_
  rw [rdL_n, w64s (n := l.length) (by omega) (by omega), Int.toNat_natCast]
  exact Ev.pos (by omega) (Ev.pos (by omega) ((laws_toOp_ev _ _ (hg _ hm)).bind (Ev.pos (by omega) h)))
theorem laws_toAlgebra_ev (s : Int) (l : List LOp) (hl : l.length ≤ 8796093022208) (hg : ∀ x ∈ l, x.f1.length ≤ 35184372088832) : Ev (fun k => laws_toAlgebra.f k s l) (s, conv l) := by
 unfold laws_toAlgebra.f
 exact (laws_toOpS_ev l hl hg).bind (Ev.now _)
theorem laws_eqOp_same (a : Int) (l : List Int) (hl : l.length ≤ 35184372088832) : Ev (fun k => laws_eqOp.f k a l a l) true := by
 unfold laws_eqOp.f
 exact Ev.pos rfl ((eqIntS_same l hl).bind (Ev.pos rfl (Ev.now _)))
theorem laws_eqOpS_same (l : List IOp) (hf : fitO l) : Ev (fun k => laws_eqOpS.f k l l) true := by
 have hl := hf.1
 unfold laws_eqOpS.f
 refine Ev.pos rfl ?_
 have : Ev (fun k => laws_eqOpS.l0 k l l ((0 : Nat) : Int)) ((l.drop 0).all fun _ => true) := by
  refine all_loop l z75 (fun _ => true) (fun k i => laws_eqOpS.l0 k l l i) ?_ ?_ ?_ l.length 0 (by omega)
  ·exact Ev.step (fun _ => laws_eqOpS.l0.eq_2 ..) (Ev.neg (by omega) (Ev.now _))
  ·intro i r hi _ h
   refine Ev.step (fun _ => laws_eqOpS.l0.eq_2 ..) ?_
   rw [rdO_n, w64s (n := l.length) (by omega) (by omega)]
   exact Ev.pos (by omega) (Ev.pos (by omega) (Ev.pos (by omega) ((laws_eqOp_same _ _ (by have := fitO_at hf hi; omega)).bind (Ev.pos rfl h))))
  ·intro i hi hp
   simp at hp
 exact this.to (by rw [List.all_eq_true]; intro x _; rfl)
theorem laws_eqAlgebra_same (s : Int) (l : List IOp) (hf : fitO l) : Ev (fun k => laws_eqAlgebra.f k s l s l) true := by
 unfold laws_eqAlgebra.f
 exact Ev.pos rfl ((laws_eqOpS_same l hf).bind (Ev.pos rfl (Ev.now _)))
theorem conv_fit (l : List LOp) (hl : l.length ≤ 8796093022208) (hg : ∀ x ∈ l, x.f1.length ≤ 1048576) : fitO (conv l) := by
 refine ⟨by rw [conv_length]; exact hl, fun x hx => ?_⟩
 obtain ⟨y, hy, rfl⟩ := List.mem_map.1 hx
 exact hg y hy
theorem range_at {N i : Nat} (h : i < N) : (List.range N).getD i 0 = i := by simp [List.getD, h]
theorem impl_sameList_ev (a b : List Int) (ha : a.length ≤ 8796093022208) : Ev (fun k => impl_sameList.f k a b) (decide (a = b)) := by
 unfold impl_sameList.f
 refine Ev.ite (fun h => ?_) (fun h => (Ev.now _).to (by rw [eq_comm, decide_eq_false_iff_not]; intro e; exact h (by rw [e])))
 have hl : a.length = b.length := by omega
 have key : Ev (fun k => impl_sameList.l0 k b a (a.length : Int) ((0 : Nat) : Int)) (((List.range a.length).drop 0).all fun i => decide (gd a i = gd b i)) := by
  refine all_loop (List.range a.length) 0 (fun i => decide (gd a i = gd b i)) (fun k i => impl_sameList.l0 k b a (a.length : Int) i) ?_ ?_ ?_ a.length 0 (by simp)
  ·rw [List.length_range]
   exact Ev.step (fun _ => impl_sameList.l0.eq_2 ..) (Ev.neg (by omega) (Ev.now _))
  ·intro i r hi hp h
   rw [List.length_range] at hi
   rw [range_at hi] at hp
   refine Ev.step (fun _ => impl_sameList.l0.eq_2 ..) ?_
   rw [rdn, rdn, w64s (n := a.length) (by omega) (by omega)]
   exact Ev.pos (by omega) (Ev.pos (by omega) (Ev.pos (by omega) (Ev.pos (by omega) (Ev.pos (of_decide_eq_true hp).symm h))))
  ·intro i hi hp
   rw [List.length_range] at hi
   rw [range_at hi] at hp
   refine Ev.step (fun _ => impl_sameList.l0.eq_2 ..) ?_
   rw [rdn, rdn]
   exact Ev.pos (by omega) (Ev.pos (by omega) (Ev.pos (by omega) (Ev.pos (by omega) (Ev.neg (fun e => of_decide_eq_false hp e.symm) (Ev.now _)))))
 refine key.to ?_
 rw [Bool.eq_iff_iff, decide_eq_true_iff, List.drop_zero, List.all_eq_true]
 constructor
 ·intro h
  exact ext_gd hl (fun i hi => of_decide_eq_true (h i (List.mem_range.2 hi)))
 ·intro h i _
  rw [h, decide_eq_true rfl]
theorem spec_l1Same_ev (a b : List Int) (ha : a.length ≤ 8796093022208) : Ev (fun k => spec_l1Same.f k a b) (decide (a = b)) := by
 unfold spec_l1Same.f
 refine Ev.ite (fun h => ?_) (fun h => (Ev.now _).to (by rw [eq_comm, decide_eq_false_iff_not]; intro e; exact h (by rw [e])))
 have hl : a.length = b.length := by omega
 have key : Ev (fun k => spec_l1Same.l0 k a b ((0 : Nat) : Int)) (((List.range a.length).drop 0).all fun i => decide (gd a i = gd b i)) := by
  refine all_loop (List.range a.length) 0 (fun i => decide (gd a i = gd b i)) (fun k i => spec_l1Same.l0 k a b i) ?_ ?_ ?_ a.length 0 (by simp)
  ·rw [List.length_range]
   exact Ev.step (fun _ => spec_l1Same.l0.eq_2 ..) (Ev.neg (by omega) (Ev.now _))
  ·intro i r hi hp h
   rw [List.length_range] at hi
   rw [range_at hi] at hp
   refine Ev.step (fun _ => spec_l1Same.l0.eq_2 ..) ?_
   rw [rdn, rdn, w64s (n := a.length) (by omega) (by omega)]
   exact Ev.pos (by omega) (Ev.pos (by omega) (Ev.pos (by omega) (Ev.pos (of_decide_eq_true hp) h)))
  ·intro i hi hp
   rw [List.length_range] at hi
   rw [range_at hi] at hp
   refine Ev.step (fun _ => spec_l1Same.l0.eq_2 ..) ?_
   rw [rdn, rdn]
   exact Ev.pos (by omega) (Ev.pos (by omega) (Ev.pos (by omega) (Ev.neg (of_decide_eq_false hp) (Ev.now _))))
 refine key.to ?_
 rw [Bool.eq_iff_iff, decide_eq_true_iff, List.drop_zero, List.all_eq_true]
 constructor
 ·intro h
  exact ext_gd hl (fun i hi => of_decide_eq_true (h i (List.mem_range.2 hi)))
 ·intro h i _
  rw [h, decide_eq_true rfl]
theorem rdi (l : List Int) {i : Int} (h : 0 ≤ i) : rd l i = gd l i.toNat := by
 obtain ⟨j, rfl⟩ : ∃ j : Nat, i = (j : Int) := ⟨i.toNat, by omega⟩
 rw [rdn, Int.toNat_natCast]
theorem spec_l2Elements_ev (n : Int) (l : List Int) (hn : 1 ≤ n ∧ n ≤ 8) (hl : l.length ≤ 8796093022208) : Ev (fun k => spec_l2Elements.f k n l) (l.all (inB n)) := by
 unfold spec_l2Elements.f
 refine all_loop l 0 (inB n) (fun k i => spec_l2Elements.l0 k n l i) ?_ ?_ ?_ l.length 0 (by omega)
 ·exact Ev.step (fun _ => spec_l2Elements.l0.eq_2 ..) (Ev.neg (by omega) (Ev.now _))
 ·intro i r hi hp h
  have hp' := of_decide_eq_true hp
  change 0 ≤ gd l i ∧ gd l i < n at hp'
  refine Ev.step (fun _ => spec_l2Elements.l0.eq_2 ..) ?_
  rw [w64s (n := l.length) (by omega) (by omega), rdn, spec_l1In_eq, w64 (by omega) (by omega)]
  exact Ev.pos (by omega) (Ev.pos (by omega) (Ev.bind1 (Ev.pos (decide_eq_true (by omega)) h)))
 ·intro i hi hp
  have hp' := of_decide_eq_false hp
  change ¬ (0 ≤ gd l i ∧ gd l i < n) at hp'
  refine Ev.step (fun _ => spec_l2Elements.l0.eq_2 ..) ?_
  rw [rdn, spec_l1In_eq, w64 (by omega) (by omega)]
  exact Ev.pos (by omega) (Ev.pos (by omega) (Ev.bind1 (Ev.neg (by rw [decide_eq_true_eq]; omega) (Ev.now _))))
def pairsFrom (T : Nat → Nat) (ks : List Nat) : List (Nat × Nat) := ks.flatMap fun k => (List.range (T k)).map fun i => (k, i)
theorem pairs_loop {γ : Type} (N : Nat) (T : Nat → Nat) (bad : Nat × Nat → Bool) (L0 : Nat → Int → Option γ) (L1 : Nat → Int → Int → Option γ) (res : Option (Nat × Nat) → γ)
  (h0 : Ev (fun f => L0 f (N : Int)) (res none))
  (hin : ∀ (k : Nat) (r : γ), k < N → Ev (fun f => L1 f (k : Int) ((0 : Nat) : Int)) r → Ev (fun f => L0 f (k : Int)) r)
  (hnext : ∀ (k : Nat) (r : γ), k < N → Ev (fun f => L0 f ((k + 1 : Nat) : Int)) r → Ev (fun f => L1 f (k : Int) (T k : Int)) r)
  (hbad : ∀ (k i : Nat), k < N → i < T k → bad (k, i) = true → Ev (fun f => L1 f (k : Int) (i : Int)) (res (some (k, i))))
  (hok : ∀ (k i : Nat) (r : γ), k < N → i < T k → bad (k, i) = false → Ev (fun f => L1 f (k : Int) ((i + 1 : Nat) : Int)) r → Ev (fun f => L1 f (k : Int) (i : Int)) r) :
  ∀ (d k : Nat), k + d = N → Ev (fun f => L0 f (k : Int)) (res ((pairsFrom T ((List.range N).drop k)).find? bad)) := by
 intro d
 induction d with
 | zero =>
  intro k hk
  have : k = N := by omega
  subst this
  rw [List.drop_of_length_le (by simp)]
  exact h0
 | succ d ih =>
  intro k hk
  refine hin k _ (by omega) ?_
  rw [drop_cons (List.range N) 0 (i := k) (by simp; omega), range_at (by omega)]
  have inner : ∀ (e i : Nat), i + e = T k → Ev (fun f => L1 f (k : Int) (i : Int)) (res ((((List.range (T k)).drop i).map (fun i => (k, i)) ++ pairsFrom T ((List.range N).drop (k + 1))).find? bad)) := by
   intro e
   induction e with
   | zero =>
    intro i hi
    have : i = T k := by omega
    subst this
    rw [List.drop_of_length_le (by simp), List.map_nil, List.nil_append]
    exact hnext k _ (by omega) (ih (k + 1) (by omega))
   | succ e ihe =>
    intro i hi
    rw [drop_cons (List.range (T k)) 0 (i := i) (by simp; omega), range_at (by omega), List.map_cons, List.cons_append, List.find?_cons]
    cases hb : bad (k, i) with
    | true => exact hbad k i (by omega) (by omega) hb
    | false => exact hok k i _ (by omega) (by omega) hb (ihe (i + 1) (by omega))
  have := inner (T k) 0 (by omega)
  simpa [pairsFrom] using this
def typ (ops : List IOp) : List Int := ops.map fun x => x.f0
def likeB (n : Int) (A : List IOp) (m : Int) (B : List IOp) : Bool := algB n A && (algB m B && decide (typ A = typ B))
theorem typ_length (ops : List IOp) : (typ ops).length = ops.length := by simp [typ]
theorem impl_typeOf_ev (n : Int) (ops : List IOp) (hl : ops.length ≤ 8796093022208) : Ev (fun k => impl_typeOf.f k n ops) (typ ops) := by
 unfold impl_typeOf.f
 refine map_loop ops z75 (fun x => x.f0) (fun k out i => impl_typeOf.l0 k out ops (ops.length : Int) i) (typ ops) ?_ ?_ ops.length 0 (by omega)
 ·exact Ev.step (fun _ => impl_typeOf.l0.eq_2 ..) (Ev.neg (by omega) (Ev.now _))
 ·intro i out hi ho h
  refine Ev.step (fun _ => impl_typeOf.l0.eq_2 ..) ?_
  rw [rdO_n, w64s (n := ops.length) (by omega) (by omega)]
  exact Ev.pos (by omega) (Ev.pos (by omega) (Ev.pos (by omega) (Ev.pos (by omega) h)))
theorem spec_l2Type_ev (n : Int) (ops : List IOp) (hl : ops.length ≤ 8796093022208) : Ev (fun k => spec_l2Type.f k n ops) (typ ops) := by
 unfold spec_l2Type.f
 refine map_loop ops z75 (fun x => x.f0) (fun k out i => spec_l2Type.l0 k out i n ops) (typ ops) ?_ ?_ ops.length 0 (by omega)
 ·exact Ev.step (fun _ => spec_l2Type.l0.eq_2 ..) (Ev.neg (by omega) (Ev.now _))
 ·intro i out hi ho h
  refine Ev.step (fun _ => spec_l2Type.l0.eq_2 ..) ?_
  rw [rdO_n, w64s (n := ops.length) (by omega) (by omega)]
  exact Ev.pos (by omega) (Ev.pos (by omega) (Ev.pos (by omega) h))
theorem impl_alike_ev (n m : Int) (A B : List IOp) (hA : fitO A) (hB : fitO B) (ha : algB n A = true) (hb : algB m B = true) : Ev (fun k => impl_alike.f k n A m B) (decide (typ A = typ B)) := by
 unfold impl_alike.f
 have h1 := impl_IsAlgebra_ev n A hA
 have h2 := impl_IsAlgebra_ev m B hB
 rw [ha] at h1
 rw [hb] at h2
 refine (?_ : Ev (fun k => impl_SameType.f k n A m B) (decide (typ A = typ B), true)).bind (Ev.pos rfl (Ev.now _))
 unfold impl_SameType.f
 exact h1.bind (Ev.pos rfl (h2.bind (Ev.step (fun _ => impl_SameType.j0.eq_2 ..) (Ev.neg (by simp) ((impl_typeOf_ev n A hA.1).bind ((impl_typeOf_ev m B hB.1).bind ((impl_sameList_ev _ _ (by rw [typ_length]; exact hA.1)).bind (Ev.now _))))))))
theorem impl_areAlike_ev (n m : Int) (A B : List IOp) (hA : fitO A) (hB : fitO B) : Ev (fun k => impl_areAlike.f k n A m B) (likeB n A m B) := by
 unfold impl_areAlike.f likeB
 refine (impl_IsAlgebra_ev n A hA).bind (Ev.ite (fun h => ?_) (fun h => (Ev.now _).to (by simp [h])))
 refine (impl_IsAlgebra_ev m B hB).bind (Ev.ite (fun h' => ?_) (fun h' => (Ev.now _).to (by simp [h'])))
 refine (impl_alike_ev n m A B hA hB h h').bind ((Ev.now _).to (by simp [h, h']))
theorem spec_l7Two_ev (n m : Int) (A B : List IOp) (hA : fitO A) (hB : fitO B) : Ev (fun k => spec_l7Two.f k n A m B) (likeB n A m B) := by
 unfold spec_l7Two.f likeB
 refine (spec_l2Good_ev n A hA).bind (Ev.ite (fun h => ?_) (fun h => (Ev.now _).to (by simp [h])))
 refine (spec_l2Good_ev m B hB).bind (Ev.ite (fun h' => ?_) (fun h' => (Ev.now _).to (by simp [h'])))
 refine (?_ : Ev (fun k => spec_l2Same.f k n A m B) (decide (typ A = typ B))).bind ((Ev.now _).to (by simp [h, h']))
 unfold spec_l2Same.f
 exact (spec_l2Type_ev n A hA.1).bind ((spec_l2Type_ev m B hB.1).bind ((spec_l1Same_ev _ _ (by rw [typ_length]; exact hA.1)).bind (Ev.now _)))
theorem typ_at {A B : List IOp} (h : typ A = typ B) : A.length = B.length ∧ ∀ k, k < A.length → (B.getD k z75).f0 = (A.getD k z75).f0 := by
 have hl : A.length = B.length := by have := congrArg List.length h; simpa [typ] using this
 refine ⟨hl, fun k hk => ?_⟩
 have := congrArg (fun l => l[k]?) h
 simp only [typ, List.getElem?_map, List.getElem?_eq_getElem hk, List.getElem?_eq_getElem (show k < B.length by omega), Option.map_some, Option.some.injEq] at this
 simp [List.getD, hk, show k < B.length by omega, this]
theorem like_of {n m : Int} {A B : List IOp} (h : likeB n A m B = true) : algB n A = true ∧ algB m B = true ∧ A.length = B.length ∧ ∀ k, k < A.length → (B.getD k z75).f0 = (A.getD k z75).f0 := by
 simp only [likeB, Bool.and_eq_true, decide_eq_true_eq] at h
 exact ⟨h.1, h.2.1, typ_at h.2.2⟩
def mapB (n m : Int) (f : List Int) : Bool := decide ((f.length : Int) = n) && f.all (inB m)
theorem map_of {n m : Int} {f : List Int} (h : mapB n m f = true) : (f.length : Int) = n ∧ ∀ i, i < f.length → 0 ≤ gd f i ∧ gd f i < m := by
 simp only [mapB, Bool.and_eq_true, decide_eq_true_eq, List.all_eq_true, inB] at h
 refine ⟨h.1, fun i hi => ?_⟩
 rw [gd_lt hi]
 exact h.2 _ (List.getElem_mem hi)
theorem impl_isMap_ev (n m : Int) (A B : List IOp) (f : List Int) (hf : f.length ≤ 1048576) : Ev (fun k => impl_isMap.f k n A m B f) (mapB n m f) := by
 unfold impl_isMap.f mapB
 refine Ev.ite (fun h => ?_) (fun h => (Ev.now _).to (by simp [h]))
 exact (impl_inSize_ev f m (by omega)).bind ((Ev.now _).to (by simp [h]))
theorem spec_l7Map_ev (n m : Int) (A B : List IOp) (f : List Int) (hm : 1 ≤ m ∧ m ≤ 8) (hf : f.length ≤ 1048576) : Ev (fun k => spec_l7Map.f k n A m B f) (mapB n m f) := by
 unfold spec_l7Map.f mapB
 refine Ev.ite (fun h => ?_) (fun h => (Ev.now _).to (by simp [h]))
 exact (spec_l2Elements_ev m f hm (by omega)).bind ((Ev.now _).to (by simp [h]))
def imgs (f : List Int) (l : List Int) : List Int := l.map fun x => gd f x.toNat
theorem imgs_length (f l : List Int) : (imgs f l).length = l.length := by simp [imgs]
theorem imgs_in {m : Int} {f l : List Int} (hf : ∀ i, i < f.length → 0 ≤ gd f i ∧ gd f i < m) (hl : ∀ x ∈ l, 0 ≤ x ∧ x < (f.length : Int)) : ∀ x ∈ imgs f l, 0 ≤ x ∧ x < m := by
 intro x hx
 obtain ⟨y, hy, rfl⟩ := List.mem_map.1 hx
 exact hf _ (by have := hl y hy; omega)
theorem spec_l7Images_ev (f l : List Int) (hl : l.length ≤ 1048576) (hin : ∀ x ∈ l, 0 ≤ x ∧ x < (f.length : Int)) : Ev (fun k => spec_l7Images.f k f l) (imgs f l) := by
 unfold spec_l7Images.f
 refine map_loop l 0 (fun x => gd f x.toNat) (fun k out i => spec_l7Images.l0 k f l out i) (imgs f l) ?_ ?_ l.length 0 (by omega)
 ·exact Ev.step (fun _ => spec_l7Images.l0.eq_2 ..) (Ev.neg (by omega) (Ev.now _))
 ·intro i out hi ho h
  have hx := hin (gd l i) (by rw [gd_lt hi]; exact List.getElem_mem hi)
  change Ev (fun k => spec_l7Images.l0 k f l (out ++ [gd f (gd l i).toNat]) ((i + 1 : Nat) : Int)) _ at h
  refine Ev.step (fun _ => spec_l7Images.l0.eq_2 ..) ?_
  rw [rdn, rdi f hx.1, w64s (n := l.length) (by omega) (by omega)]
  exact Ev.pos (by omega) (Ev.pos (by omega) (Ev.pos hx.1 (Ev.pos hx.2 (Ev.pos (by omega) h))))
theorem img_step {v s : Int} (h1 : 0 ≤ v ∧ v < 8) (h2 : 1 ≤ s ∧ s ≤ 512) (a : Int) (ha : 0 ≤ a ∧ a ≤ 1048576) : wrap64 (a + wrap64 (v * s)) = a + v * s ∧ 0 ≤ v * s ∧ v * s ≤ 4096 := by
 have h3 : 0 ≤ v * s := Int.mul_nonneg h1.1 (by omega)
 have h4 : v * s ≤ 8 * 512 := Int.mul_le_mul (by omega) h2.2 (by omega) (by omega)
 rw [w64 (x := v * s) (by omega) (by omega), w64 (by omega) (by omega)]
 omega
theorem impl_imageIndex_loop (n m : Int) (A B : List IOp) (f : List Int) (hn : 1 ≤ n ∧ n ≤ 8) (hm : 1 ≤ m ∧ m ≤ 8) (hfl : (f.length : Int) = n) (hf : ∀ i, i < f.length → 0 ≤ gd f i ∧ gd f i < m) (ar : Nat) (har : ar ≤ 3) :
  ∀ (d k : Nat) (i at_ : Int), k + d = ar → 0 ≤ i → i ≤ 1048576 → 0 ≤ at_ → at_ ≤ 4096 * k → Ev (fun g => impl_imageIndex.l0 g i (ar : Int) f at_ (m ^ k) (k : Int) n A m B) (at_ + valM m (imgs f (argsM n d i)) * m ^ k) := by
 intro d
 induction d with
 | zero =>
  intro k i at_ hk _ _ _ _
  exact Ev.step (fun _ => impl_imageIndex.l0.eq_2 ..) (Ev.neg (by omega) ((Ev.now _).to (by simp [argsM, imgs, valM])))
 | succ d ih =>
  intro k i at_ hk h0 h1 h2 h3
  obtain ⟨e1, e2, e3⟩ := div_in (n := n) h0 (by omega) hn.1
  have hm0 : 0 ≤ i % n := Int.emod_nonneg _ (by omega)
  have hm1 : i % n < n := Int.emod_lt_of_pos _ (by omega)
  have hv := hf (i % n).toNat (by omega)
  have h5 : 1 ≤ m ^ k := by have : 0 < m ^ k := Int.pow_pos (by omega); omega
  have h6 := pow_le3 hm (k := k) (by omega)
  have h7 := pow_le3 hm (k := k + 1) (by omega)
  have h8 : m ^ (k + 1) = m ^ k * m := Int.pow_succ m k
  have h9 : 0 < m ^ (k + 1) := Int.pow_pos (by omega)
  obtain ⟨s1, s2, s3⟩ := img_step (v := gd f (i % n).toNat) (s := m ^ k) ⟨hv.1, by omega⟩ ⟨h5, h6⟩ at_ ⟨h2, by omega⟩
  refine Ev.step (fun _ => impl_imageIndex.l0.eq_2 ..) (Ev.pos (by omega) (Ev.neg (by omega) ?_))
  rw [Int.tmod_eq_emod_of_nonneg h0, rdi f hm0, s1, e1, w64s (n := ar) (by omega) (by omega), w64 (x := m ^ k * m) (by omega) (by omega), ← h8]
  refine Ev.pos hm0 (Ev.pos (by omega) ((ih (k + 1) (i / n) _ (by omega) e2 (by omega) (by omega) (by omega)).to ?_))
  rw [argsM]
  simp only [imgs, List.map_append, List.map_cons, List.map_nil]
  rw [valM_snoc, h8, Int.add_mul, Int.mul_assoc, Int.mul_comm (m ^ k) m]
  omega
theorem impl_imageIndex_ev (n m : Int) (A B : List IOp) (f : List Int) (hn : 1 ≤ n ∧ n ≤ 8) (hm : 1 ≤ m ∧ m ≤ 8) (hfl : (f.length : Int) = n) (hf : ∀ i, i < f.length → 0 ≤ gd f i ∧ gd f i < m) (ar : Nat) (har : ar ≤ 3) (i : Int) (h0 : 0 ≤ i) (h1 : i ≤ 1048576) :
  Ev (fun g => impl_imageIndex.f g i (ar : Int) n A m B f) (valM m (imgs f (argsM n ar i))) := by
 unfold impl_imageIndex.f
 have := impl_imageIndex_loop n m A B f hn hm hfl hf ar har ar 0 i 0 (by omega) h0 h1 (by omega) (by omega)
 rw [Int.pow_zero] at this
 exact this.to (by omega)
def badHom (n : Int) (A : List IOp) (m : Int) (B : List IOp) (f : List Int) (p : Nat × Nat) : Bool :=
 decide (gd f (gd (A.getD p.1 z75).f1 p.2).toNat ≠ gd (B.getD p.1 z75).f1 (valM m (imgs f (argsM n (A.getD p.1 z75).f0.toNat (p.2 : Int)))).toNat)
def faultM (n : Int) (A : List IOp) (m : Int) (B : List IOp) (f : List Int) : Option (Nat × Nat) := (pairsFrom (fun k => (A.getD k z75).f1.length) (List.range A.length)).find? (badHom n A m B f)
def resI : Option (Nat × Nat) → Int × Int
 | none => (-1, 0)
 | some (k, i) => ((k : Int), (i : Int))
def resS (n : Int) (A : List IOp) : Option (Nat × Nat) → Int × List Int × Bool
 | none => (0, [], false)
 | some (k, i) => ((k : Int), argsM n (A.getD k z75).f0.toNat (i : Int), true)
theorem hom_place {n m : Int} {A B : List IOp} {f : List Int} (h2 : likeB n A m B = true) (hf : mapB n m f = true) {k i : Nat} (hk : k < A.length) (hi : i < (A.getD k z75).f1.length) :
  ∃ ar : Nat, (A.getD k z75).f0 = ar ∧ ar ≤ 3 ∧ i ≤ 512 ∧ 0 ≤ gd (A.getD k z75).f1 i ∧ gd (A.getD k z75).f1 i < (f.length : Int) ∧ (m ^ ar ≤ ((B.getD k z75).f1.length : Int)) ∧
   (∀ x ∈ argsM n ar (i : Int), 0 ≤ x ∧ x < (f.length : Int)) ∧ (∀ x ∈ imgs f (argsM n ar (i : Int)), 0 ≤ x ∧ x < m) ∧ 0 ≤ valM m (imgs f (argsM n ar (i : Int))) ∧ valM m (imgs f (argsM n ar (i : Int))) < ((B.getD k z75).f1.length : Int) := by
 obtain ⟨ha, hb, hl, ht⟩ := like_of h2
 obtain ⟨hfl, hfm⟩ := map_of hf
 have hn := algB_size ha
 have hm := algB_size hb
 obtain ⟨ar, e1, e2, e3, e4⟩ := opB_of (algB_op ha hk)
 obtain ⟨br, g1, g2, g3, g4⟩ := opB_of (algB_op hb (i := k) (by omega))
 have hbr : br = ar := by have := ht k hk; omega
 subst hbr
 have h512 := pow_le3 hn e2
 have hx := e4 (gd (A.getD k z75).f1 i) (by rw [gd_lt hi]; exact List.getElem_mem hi)
 have hargs : ∀ x ∈ argsM n br (i : Int), 0 ≤ x ∧ x < (f.length : Int) := fun x hx => by have := argsM_in hn.1 br (i : Int) (by omega) x hx; omega
 have himg := imgs_in hfm hargs
 have hv := valM_in hm.1 _ himg
 rw [imgs_length, argsM_length] at hv
 exact ⟨br, e1, e2, by omega, hx.1, by omega, by omega, hargs, himg, hv.1, by omega⟩
theorem impl_faultOf_ev (n m : Int) (A B : List IOp) (f : List Int) (h2 : likeB n A m B = true) (hf : mapB n m f = true) : Ev (fun k => impl_faultOf.f k n A m B f) (resI (faultM n A m B f)) := by
 obtain ⟨ha, hb, hl, ht⟩ := like_of h2
 obtain ⟨hfl, hfm⟩ := map_of hf
 have hn := algB_size ha
 have hm := algB_size hb
 have hfew := algB_few ha
 unfold impl_faultOf.f faultM
 refine pairs_loop A.length (fun k => (A.getD k z75).f1.length) (badHom n A m B f) (fun g k => impl_faultOf.l0 g f A (A.length : Int) k n A m B)
  (fun g k i => impl_faultOf.l1 g f k A (A.length : Int) k (A.getD k.toNat z75).f1 ((A.getD k.toNat z75).f1.length : Int) i n A m B (A.getD k.toNat z75).f0 (A.getD k.toNat z75).f1) resI ?_ ?_ ?_ ?_ ?_ A.length 0 (by omega)
 ·exact Ev.step (fun _ => impl_faultOf.l0.eq_2 ..) (Ev.neg (by omega) (Ev.now _))
 ·intro k r hk h
  rw [Int.toNat_natCast] at h
  refine Ev.step (fun _ => impl_faultOf.l0.eq_2 ..) ?_
  rw [rdO_n]
  exact Ev.pos (by omega) (Ev.pos (by omega) (Ev.pos (by omega) h))
 ·intro k r hk h
  rw [Int.toNat_natCast]
  refine Ev.step (fun _ => impl_faultOf.l1.eq_2 ..) (Ev.neg (by omega) ?_)
  rw [w64s (n := A.length) (by omega) (by omega)]
  exact h
 ·intro k i hk hi hp
  obtain ⟨ar, e1, e2, e3, e4, e5, e6, e7, e8, e9, e10⟩ := hom_place h2 hf hk hi
  have hp' := of_decide_eq_true hp
  simp only [e1, Int.toNat_natCast] at hp'
  rw [Int.toNat_natCast, e1]
  refine Ev.step (fun _ => impl_faultOf.l1.eq_2 ..) ?_
  rw [rdn, rdi f e4, rdO_n]
  refine Ev.pos (by omega) (Ev.pos (by omega) (Ev.pos (by omega) (Ev.pos e4 (Ev.pos e5 (Ev.pos (by omega) (Ev.pos (by omega) ((impl_imageIndex_ev n m A B f hn hm hfl hfm ar e2 i (by omega) (by omega)).bind ?_)))))))
  rw [rdi _ e9]
  exact Ev.pos e9 (Ev.pos e10 (Ev.neg hp' (Ev.now _)))
 ·intro k i r hk hi hp h
  obtain ⟨ar, e1, e2, e3, e4, e5, e6, e7, e8, e9, e10⟩ := hom_place h2 hf hk hi
  have hp' := Classical.not_not.1 (of_decide_eq_false hp)
  simp only [e1, Int.toNat_natCast] at hp'
  rw [Int.toNat_natCast, e1] at h ⊢
  refine Ev.step (fun _ => impl_faultOf.l1.eq_2 ..) ?_
  rw [rdn, rdi f e4, rdO_n, w64s (i := i) (n := 1000) (by omega) (by omega)]
  refine Ev.pos (by omega) (Ev.pos (by omega) (Ev.pos (by omega) (Ev.pos e4 (Ev.pos e5 (Ev.pos (by omega) (Ev.pos (by omega) ((impl_imageIndex_ev n m A B f hn hm hfl hfm ar e2 i (by omega) (by omega)).bind ?_)))))))
  rw [rdi _ e9]
  exact Ev.pos e9 (Ev.pos e10 (Ev.pos hp' h))
theorem spec_l7Fault_ev (n m : Int) (A B : List IOp) (f : List Int) (h2 : likeB n A m B = true) (hf : mapB n m f = true) : Ev (fun k => spec_l7Fault.f k n A m B f) (resS n A (faultM n A m B f)) := by
 obtain ⟨ha, hb, hl, ht⟩ := like_of h2
 obtain ⟨hfl, hfm⟩ := map_of hf
 have hn := algB_size ha
 have hm := algB_size hb
 have hfew := algB_few ha
 unfold spec_l7Fault.f faultM
 refine pairs_loop A.length (fun k => (A.getD k z75).f1.length) (badHom n A m B f) (fun g k => spec_l7Fault.l0 g f k n A m B)
  (fun g k i => spec_l7Fault.l1 g f k i n A m B) (resS n A) ?_ ?_ ?_ ?_ ?_ A.length 0 (by omega)
 ·exact Ev.step (fun _ => spec_l7Fault.l0.eq_2 ..) (Ev.neg (by omega) (Ev.now _))
 ·intro k r hk h
  exact Ev.step (fun _ => spec_l7Fault.l0.eq_2 ..) (Ev.pos (by omega) h)
 ·intro k r hk h
  refine Ev.step (fun _ => spec_l7Fault.l1.eq_2 ..) ?_
  rw [rdO_n, w64s (i := k) (n := A.length) (by omega) (by omega)]
  exact Ev.pos (by omega) (Ev.pos (by omega) (Ev.neg (by omega) h))
 ·intro k i hk hi hp
  obtain ⟨ar, e1, e2, e3, e4, e5, e6, e7, e8, e9, e10⟩ := hom_place h2 hf hk hi
  have hp' := of_decide_eq_true hp
  simp only [e1, Int.toNat_natCast] at hp'
  refine Ev.step (fun _ => spec_l7Fault.l1.eq_2 ..) ?_
  rw [rdO_n, rdn, rdi f e4, e1]
  refine Ev.pos (by omega) (Ev.pos (by omega) (Ev.pos (by omega) ((spec_l2Args_ev n ar i hn.1 e2 (by omega) (by omega)).bind (Ev.pos (by omega) (Ev.pos e4 (Ev.pos e5 ((spec_l7Images_ev f _ (by rw [argsM_length]; omega) e7).bind ?_)))))))
  refine (spec_l2Value_ev m B k _ hm (by omega) e8 (by rw [imgs_length, argsM_length]; omega) (by rw [imgs_length, argsM_length]; exact e6)).bind (Ev.neg hp' ((Ev.now _).to ?_))
  simp only [resS, e1, Int.toNat_natCast]
 ·intro k i r hk hi hp h
  obtain ⟨ar, e1, e2, e3, e4, e5, e6, e7, e8, e9, e10⟩ := hom_place h2 hf hk hi
  have hp' := Classical.not_not.1 (of_decide_eq_false hp)
  simp only [e1, Int.toNat_natCast] at hp'
  refine Ev.step (fun _ => spec_l7Fault.l1.eq_2 ..) ?_
  rw [rdO_n, rdn, rdi f e4, e1, w64s (i := i) (n := 1000) (by omega) (by omega)]
  refine Ev.pos (by omega) (Ev.pos (by omega) (Ev.pos (by omega) ((spec_l2Args_ev n ar i hn.1 e2 (by omega) (by omega)).bind (Ev.pos (by omega) (Ev.pos e4 (Ev.pos e5 ((spec_l7Images_ev f _ (by rw [argsM_length]; omega) e7).bind ?_)))))))
  exact (spec_l2Value_ev m B k _ hm (by omega) e8 (by rw [imgs_length, argsM_length]; omega) (by rw [imgs_length, argsM_length]; exact e6)).bind (Ev.pos hp' h)
def homB (n : Int) (A : List IOp) (m : Int) (B : List IOp) (f : List Int) : Bool := mapB n m f && (faultM n A m B f).isNone
theorem impl_isHom_ev (n m : Int) (A B : List IOp) (f : List Int) (h2 : likeB n A m B = true) (hl : f.length ≤ 1048576) : Ev (fun k => impl_isHom.f k n A m B f) (homB n A m B f) := by
 unfold impl_isHom.f homB
 refine (impl_isMap_ev n m A B f hl).bind (Ev.ite (fun h => ?_) (fun h => (Ev.now _).to (by simp [h])))
 refine (impl_faultOf_ev n m A B f h2 h).bind ((Ev.now _).to ?_)
 rw [h, Bool.true_and]
 cases h' : faultM n A m B f with
 | none => rfl
 | some p =>
  obtain ⟨k, i⟩ := p
  exact decide_eq_false (by simp only [resI]; omega)
theorem spec_l7Is_ev (n m : Int) (A B : List IOp) (f : List Int) (h2 : likeB n A m B = true) (hl : f.length ≤ 1048576) : Ev (fun k => spec_l7Is.f k n A m B f) (homB n A m B f) := by
 obtain ⟨ha, hb, _, _⟩ := like_of h2
 unfold spec_l7Is.f homB
 refine (spec_l7Map_ev n m A B f (algB_size hb) hl).bind (Ev.ite (fun h => ?_) (fun h => (Ev.now _).to (by simp [h])))
 refine (spec_l7Fault_ev n m A B f h2 h).bind ((Ev.now _).to ?_)
 rw [h, Bool.true_and]
 cases h' : faultM n A m B f with
 | none => rfl
 | some p => rfl
theorem partAt_of {n : Int} {p : List Int} (h : partB n p = true) {i : Nat} (hi : i < p.length) : 0 ≤ gd p i ∧ gd p i ≤ i ∧ gd p (gd p i).toNat = gd p i := by
 simp only [partB, Bool.and_eq_true, List.all_eq_true, List.mem_range'_1, decide_eq_true_eq] at h
 have := h.2 i ⟨by omega, by omega⟩
 simpa [partAt] using this
theorem partB_len {n : Int} {p : List Int} (h : partB n p = true) : (p.length : Int) = n := by
 simp only [partB, Bool.and_eq_true, decide_eq_true_eq] at h
 exact h.1
def uni (p : List Int) (x y : Int) : List Int :=
 p.map fun v => if v = max (gd p x.toNat) (gd p y.toNat) then min (gd p x.toNat) (gd p y.toNat) else v
theorem uni_length (p : List Int) (x y : Int) : (uni p x y).length = p.length := by simp [uni]
theorem gd_map (f : Int → Int) (p : List Int) {i : Nat} (h : i < p.length) : gd (p.map f) i = f (gd p i) := by
 rw [gd_lt (by simpa using h), gd_lt h]
 simp
def ap (p : List Int) (i : Nat) : Nat := (gd p i).toNat
theorem gd_ap {n : Int} {p : List Int} (h : partB n p = true) {i : Nat} (hi : i < p.length) : gd p i = (ap p i : Int) := by
 have := partAt_of h hi
 unfold ap
 omega
theorem ap_le {n : Int} {p : List Int} (h : partB n p = true) {i : Nat} (hi : i < p.length) : ap p i ≤ i := by
 have := partAt_of h hi
 unfold ap
 omega
theorem ap_lt {n : Int} {p : List Int} (h : partB n p = true) {i : Nat} (hi : i < p.length) : ap p i < p.length := by
 have := ap_le h hi
 omega
theorem ap_ap {n : Int} {p : List Int} (h : partB n p = true) {i : Nat} (hi : i < p.length) : ap p (ap p i) = ap p i := by
 have := partAt_of h hi
 unfold ap
 rw [this.2.2]
def finer (p q : List Int) : Prop := ∀ i, i < p.length → ap q (ap p i) = ap q i
theorem finer_refl {n : Int} {p : List Int} (h : partB n p = true) : finer p p := fun i hi => ap_ap h hi
theorem finer_trans {n : Int} {p q r : List Int} (hp : partB n p = true) (hq : partB n q = true) (h : finer p q) (h' : finer q r) : finer p r := fun i hi => by
 have e1 := partB_len hp
 have e2 := partB_len hq
 have h1 := h' (ap p i) (by have := ap_lt hp hi; omega)
 rw [h i hi] at h1
 rw [← h1, h' i (by omega)]
theorem part_of_ap {n : Int} {p : List Int} (hl : (p.length : Int) = n) (h : ∀ i, i < p.length → 0 ≤ gd p i ∧ ap p i ≤ i ∧ ap p (ap p i) = ap p i) (hg : ∀ i, i < p.length → 0 ≤ gd p i) : partB n p = true := by
 simp only [partB, Bool.and_eq_true, decide_eq_true_eq, List.all_eq_true, List.mem_range'_1]
 refine ⟨hl, fun i hi => ?_⟩
 have hi' : i < p.length := by omega
 obtain ⟨h1, h2, h3⟩ := h i hi'
 have h4 := hg (ap p i) (by omega)
 unfold ap at h2 h3 h4
 simp only [partAt, Bool.and_eq_true, decide_eq_true_eq]
 omega
theorem uni_ap {n : Int} {p : List Int} (h : partB n p = true) {x y i : Nat} (hx : x < p.length) (hy : y < p.length) (hi : i < p.length) : ap (uni p (x : Int) (y : Int)) i = if ap p i = max (ap p x) (ap p y) then min (ap p x) (ap p y) else ap p i := by
 unfold ap uni
 rw [gd_map _ _ hi]
 simp only [Int.toNat_natCast]
 have h1 := gd_ap h hx
 have h2 := gd_ap h hy
 have h3 := gd_ap h hi
 unfold ap at h1 h2 h3
 split <;> split <;> omega
theorem uni_part {n : Int} {p : List Int} (h : partB n p = true) {x y : Nat} (hx : x < p.length) (hy : y < p.length) : partB n (uni p (x : Int) (y : Int)) = true := by
 have hl := partB_len h
 have hpos : ∀ i, i < p.length → 0 ≤ gd (uni p (x : Int) (y : Int)) i := fun i hi => by
  unfold uni
  rw [gd_map _ _ hi]
  simp only [Int.toNat_natCast]
  have h1 := (partAt_of h hx).1
  have h2 := (partAt_of h hy).1
  have h3 := (partAt_of h hi).1
  split <;> omega
 refine part_of_ap (by rw [uni_length]; exact hl) (fun i hi => ?_) (fun i hi => by rw [uni_length] at hi; exact hpos i hi)
 rw [uni_length] at hi
 have a1 := ap_le h hi
 have a2 := ap_ap h hi
 have b1 := ap_lt h hx
 have b2 := ap_lt h hy
 have c1 := ap_ap h hx
 have c2 := ap_ap h hy
 refine ⟨hpos i hi, ?_, ?_⟩
 ·rw [uni_ap h hx hy hi]
  split <;> omega
 ·have hj : ap (uni p (x : Int) (y : Int)) i < p.length := by
   rw [uni_ap h hx hy hi]
   split <;> omega
  rw [uni_ap h hx hy hj]
  generalize hv : ap (uni p (x : Int) (y : Int)) i = v
  rw [uni_ap h hx hy hi] at hv
  have e : v = ap p x ∨ v = ap p y ∨ v = ap p i := by
   split at hv <;> omega
  have e2 : ap p v = v := by
   rcases e with e | e | e <;> rw [e] <;> assumption
  rw [e2]
  split at hv <;> split <;> omega
theorem uni_up {n : Int} {p : List Int} (h : partB n p = true) {x y : Nat} (hx : x < p.length) (hy : y < p.length) : finer p (uni p (x : Int) (y : Int)) := fun i hi => by
 rw [uni_ap h hx hy (ap_lt h hi), uni_ap h hx hy hi, ap_ap h hi]
theorem uni_least {n : Int} {p r : List Int} (h : partB n p = true) {x y : Nat} (hx : x < p.length) (hy : y < p.length) (hr : finer p r) (he : ap r x = ap r y) : finer (uni p (x : Int) (y : Int)) r := fun i hi => by
 rw [uni_length] at hi
 rw [uni_ap h hx hy hi]
 have h1 := hr x hx
 have h2 := hr y hy
 have h3 := hr i hi
 split
 ·rename_i e
  rcases Nat.le_total (ap p x) (ap p y) with hle | hle
  ·rw [Nat.min_eq_left hle, h1, he, ← h2, ← h3, e, Nat.max_eq_right hle]
  ·rw [Nat.min_eq_right hle, h2, ← he, ← h1, ← h3, e, Nat.max_eq_left hle]
 ·exact h3
def repl (n st i y : Nat) : Nat := (i / st / n * n + y) * st + i % st
def digit (n st i : Nat) : Nat := i / st % n
theorem repl_div {n st i y : Nat} (hs : 0 < st) : repl n st i y / st = i / st / n * n + y := by
 unfold repl
 rw [Nat.mul_comm, Nat.mul_add_div hs, Nat.div_eq_of_lt (Nat.mod_lt _ hs), Nat.add_zero]
theorem repl_mod {n st i y : Nat} : repl n st i y % st = i % st := by
 unfold repl
 rw [Nat.mul_add_mod_self_right, Nat.mod_mod]
theorem digit_repl {n st i y : Nat} (hs : 0 < st) (hy : y < n) : digit n st (repl n st i y) = y := by
 unfold digit
 rw [repl_div hs, Nat.mul_add_mod_self_right, Nat.mod_eq_of_lt hy]
theorem repl_repl {n st i y z : Nat} (hs : 0 < st) (hy : y < n) : repl n st (repl n st i y) z = repl n st i z := by
 have h1 : repl n st i y / st / n = i / st / n := by
  rw [repl_div hs, Nat.mul_comm, Nat.mul_add_div (by omega), Nat.div_eq_of_lt hy, Nat.add_zero]
 show (repl n st i y / st / n * n + z) * st + repl n st i y % st = repl n st i z
 rw [h1, repl_mod]
 rfl
theorem repl_lt {n e ar i y : Nat} (hn : 0 < n) (he : e < ar) (hi : i < n ^ ar) (hy : y < n) : repl n (n ^ e) i y < n ^ ar := by
 have hs : 0 < n ^ e := Nat.pow_pos hn
 obtain ⟨d, rfl⟩ : ∃ d, ar = e + (d + 1) := ⟨ar - e - 1, by omega⟩
 have h1 : i / n ^ e < n ^ (d + 1) := Nat.div_lt_of_lt_mul (by rw [← Nat.pow_add]; exact hi)
 have h2 : i / n ^ e / n < n ^ d := Nat.div_lt_of_lt_mul (by rw [Nat.pow_succ] at h1; rw [Nat.mul_comm]; exact h1)
 have h3 : i / n ^ e / n * n + y < n ^ (d + 1) := by
  have : (i / n ^ e / n + 1) * n ≤ n ^ d * n := Nat.mul_le_mul_right n h2
  rw [Nat.pow_succ]
  rw [Nat.add_mul] at this
  omega
 unfold repl
 have h4 := Nat.mod_lt i hs
 have h5 : (i / n ^ e / n * n + y + 1) * n ^ e ≤ n ^ (d + 1) * n ^ e := Nat.mul_le_mul_right _ h3
 rw [Nat.add_mul, Nat.one_mul] at h5
 rw [Nat.pow_add, Nat.mul_comm (n ^ e)]
 omega
def arN (A : List IOp) (o : Nat) : Nat := (A.getD o z75).f0.toNat
def tb (A : List IOp) (o i : Nat) : Nat := ap (A.getD o z75).f1 i
def tlen (A : List IOp) (o : Nat) : Nat := (A.getD o z75).f1.length
theorem op_facts {n : Nat} {A : List IOp} (h : algB n A = true) {o : Nat} (ho : o < A.length) : (A.getD o z75).f0 = (arN A o : Int) ∧ arN A o ≤ 3 ∧ tlen A o = n ^ arN A o ∧ ∀ i, i < tlen A o → gd (A.getD o z75).f1 i = (tb A o i : Int) ∧ tb A o i < n := by
 obtain ⟨k, e1, e2, e3, e4⟩ := opB_of (algB_op h ho)
 have hk : arN A o = k := by unfold arN; omega
 refine ⟨by omega, by omega, ?_, fun i hi => ?_⟩
 ·unfold tlen
  rw [hk]
  have : ((n ^ k : Nat) : Int) = (n : Int) ^ k := by simp
  omega
 ·have hm := e4 (gd (A.getD o z75).f1 i) (by rw [gd_lt hi]; exact List.getElem_mem hi)
  unfold tb ap
  omega
abbrev Pt := Nat × Nat × Nat
def okPt (n : Nat) (A : List IOp) (t : Pt) : Prop := t.1 < A.length ∧ t.2.1 < arN A t.1 ∧ t.2.2 < tlen A t.1
def ptL (A : List IOp) (t : Pt) : Nat := tb A t.1 t.2.2
def ptR (n : Nat) (A : List IOp) (p : List Int) (t : Pt) : Nat := tb A t.1 (repl n (n ^ t.2.1) t.2.2 (ap p (digit n (n ^ t.2.1) t.2.2)))
def cong (n : Nat) (A : List IOp) (p : List Int) : Prop := ∀ t, okPt n A t → ap p (ptL A t) = ap p (ptR n A p t)
theorem digit_lt {n st i : Nat} (hn : 0 < n) : digit n st i < n := Nat.mod_lt _ hn
theorem pt_in {n : Nat} {A : List IOp} (h : algB n A = true) {p : List Int} (hp : partB n p = true) {t : Pt} (ht : okPt n A t) : ptL A t < n ∧ ptR n A p t < n ∧ repl n (n ^ t.2.1) t.2.2 (ap p (digit n (n ^ t.2.1) t.2.2)) < tlen A t.1 := by
 obtain ⟨h1, h2, h3⟩ := ht
 have hn := algB_size h
 have hl := partB_len hp
 obtain ⟨e1, e2, e3, e4⟩ := op_facts h h1
 have hd : ap p (digit n (n ^ t.2.1) t.2.2) < n := by
  have := ap_lt hp (i := digit n (n ^ t.2.1) t.2.2) (by have := digit_lt (n := n) (st := n ^ t.2.1) (i := t.2.2) (by omega); omega)
  omega
 have hr : repl n (n ^ t.2.1) t.2.2 (ap p (digit n (n ^ t.2.1) t.2.2)) < tlen A t.1 := by
  rw [e3]
  exact repl_lt (by omega) h2 (by rw [← e3]; exact h3) hd
 exact ⟨(e4 _ h3).2, (e4 _ hr).2, hr⟩
theorem cong_at {n : Nat} {A : List IOp} (h : algB n A = true) {p r : List Int} (hp : partB n p = true) (hr : partB n r = true) (hc : cong n A r) (hf : finer p r) {t : Pt} (ht : okPt n A t) : ap r (ptL A t) = ap r (ptR n A p t) := by
 have hn := algB_size h
 have hl := partB_len hp
 have hl' := partB_len hr
 obtain ⟨_, _, hi⟩ := pt_in h hp ht
 have hs : 0 < n ^ t.2.1 := Nat.pow_pos (by omega)
 have hdn : digit n (n ^ t.2.1) t.2.2 < n := digit_lt (by omega)
 have hd : ap p (digit n (n ^ t.2.1) t.2.2) < n := by
  have := ap_lt hp (i := digit n (n ^ t.2.1) t.2.2) (by omega)
  omega
 have c1 := hc t ht
 have c2 := hc (t.1, t.2.1, repl n (n ^ t.2.1) t.2.2 (ap p (digit n (n ^ t.2.1) t.2.2))) ⟨ht.1, ht.2.1, hi⟩
 unfold ptL ptR at c1 c2 ⊢
 simp only at c2
 rw [digit_repl hs hd, repl_repl hs hd, hf _ (by omega)] at c2
 rw [c1, c2]
def stepU (n : Nat) (A : List IOp) (q : List Int) (p : List Int) (t : Pt) : List Int := uni p (ptL A t : Int) (ptR n A q t : Int)
structure Under (n : Nat) (A : List IOp) (p0 p : List Int) : Prop where
 part : partB n p = true
 up : finer p0 p
 least : ∀ r, partB n r = true → cong n A r → finer p0 r → finer p r
theorem Under.refl {n : Nat} {A : List IOp} {p : List Int} (h : partB n p = true) : Under n A p p := ⟨h, finer_refl h, fun _ _ _ h => h⟩
theorem Under.step {n : Nat} {A : List IOp} {p0 p q : List Int} (ha : algB n A = true) (h0 : partB n p0 = true) (h : Under n A p0 p) (hq : Under n A p0 q) {t : Pt} (ht : okPt n A t) : Under n A p0 (stepU n A q p t) := by
 have hl := partB_len h.part
 obtain ⟨i1, i2, _⟩ := pt_in ha hq.part ht
 refine ⟨uni_part h.part (by omega) (by omega), finer_trans h0 h.part h.up (uni_up h.part (by omega) (by omega)), fun r hr hc hf => ?_⟩
 exact uni_least h.part (by omega) (by omega) (h.least r hr hc hf) (cong_at ha hq.part hr hc (hq.least r hr hc hf) ht)
def gb (x : List Bool) (i : Nat) : Bool := x.getD i false
theorem rdb (x : List Bool) (i : Int) : rdOf false x i = gb x i.toNat := rfl
theorem gb_len {x : List Bool} {i : Nat} (h : gb x i = true) : i < x.length := by
 apply Classical.byContradiction
 intro hn
 simp [gb, List.getD, List.getElem?_eq_none (show x.length ≤ i by omega)] at h
theorem gb_set {x : List Bool} {i : Nat} (h : i < x.length) (j : Nat) : gb (x.set i true) j = if i = j then true else gb x j := by
 unfold gb
 rw [List.getD_eq_getElem?_getD, List.getElem?_set]
 by_cases e : i = j
 ·rw [if_pos e, if_pos h, if_pos e]
  rfl
 ·rw [if_neg e, if_neg e, List.getD_eq_getElem?_getD]
def subS (x y : List Bool) : Prop := ∀ i, gb x i = true → gb y i = true
theorem subS_set {x : List Bool} {i : Nat} (h : i < x.length) : subS x (x.set i true) := fun j hj => by
 rw [gb_set h]
 split
 ·rfl
 ·exact hj
def argsA (n : Int) (A : List IOp) (o i : Nat) : List Int := argsM n (A.getD o z75).f0.toNat (i : Int)
def allX (x : List Bool) (l : List Int) : Bool := l.all fun v => gb x v.toNat
def valX (A : List IOp) (o i : Nat) : Nat := (gd (A.getD o z75).f1 i).toNat
def ptX (A : List IOp) (o i : Nat) : Prop := o < A.length ∧ i < (A.getD o z75).f1.length
def doneX (n : Int) (A : List IOp) (x : List Bool) (o i : Nat) : Prop := allX x (argsA n A o i) = true → gb x (valX A o i) = true
def closedS (n : Int) (A : List IOp) (x : List Bool) : Prop := ∀ o i, ptX A o i → doneX n A x o i
theorem allX_mono {x y : List Bool} (h : subS x y) {l : List Int} (hx : allX x l = true) : allX y l = true := by
 unfold allX at hx ⊢
 rw [List.all_eq_true] at hx ⊢
 exact fun v hv => h _ (hx v hv)
structure UnderS (n : Int) (A : List IOp) (x0 y : List Bool) : Prop where
 len : (y.length : Int) = n
 up : subS x0 y
 least : ∀ z : List Bool, (z.length : Int) = n → closedS n A z → subS x0 z → subS y z
theorem UnderS.refl {n : Int} {A : List IOp} {x : List Bool} (h : (x.length : Int) = n) : UnderS n A x x := ⟨h, fun _ h => h, fun _ _ _ h => h⟩
theorem UnderS.trans {n : Int} {A : List IOp} {x y z : List Bool} (h : UnderS n A x y) (h' : UnderS n A y z) : UnderS n A x z :=
 ⟨h'.len, fun i hi => h'.up i (h.up i hi), fun w hw hc hs => h'.least w hw hc (h.least w hw hc hs)⟩
theorem UnderS.put {n : Int} {A : List IOp} {x0 q y : List Bool} (hq : UnderS n A x0 q) (hy : UnderS n A x0 y) {o i : Nat} (pt : ptX A o i) (ok : allX q (argsA n A o i) = true) (hv : valX A o i < y.length) : UnderS n A x0 (y.set (valX A o i) true) := by
 refine ⟨by rw [List.length_set]; exact hy.len, fun j hj => subS_set hv j (hy.up j hj), fun z hz hc hs j hj => ?_⟩
 rw [gb_set hv] at hj
 by_cases e : valX A o i = j
 ·subst e
  exact hc o i pt (allX_mono (hq.least z hz hc hs) ok)
 ·rw [if_neg e] at hj
  exact hy.least z hz hc hs j hj
def mf (x : List Bool) : Nat := (List.range x.length).countP fun i => !gb x i
def setAll (x : List Bool) (l : List Int) : List Bool := l.foldl (fun x v => x.set v.toNat true) x
def marksM (n : Int) (l : List Int) : List Bool := setAll (List.replicate n.toNat false) l
theorem setAll_length (l : List Int) : ∀ x : List Bool, (setAll x l).length = x.length := by
 induction l with
 | nil => intro x; rfl
 | cons v l ih => intro x; exact (ih _).trans (by simp)
theorem setAll_at {l : List Int} : ∀ (x : List Bool), (∀ v ∈ l, 0 ≤ v ∧ v < (x.length : Int)) → ∀ j, (gb (setAll x l) j = true ↔ gb x j = true ∨ (j : Int) ∈ l) := by
 induction l with
 | nil => intro x _ j; simp [setAll]
 | cons v l ih =>
  intro x h j
  have hv := h v (by simp)
  have e : setAll x (v :: l) = setAll (x.set v.toNat true) l := rfl
  rw [e, ih _ (fun u hu => by rw [List.length_set]; exact h u (by simp [hu])) j, gb_set (by omega), List.mem_cons]
  by_cases e2 : v.toNat = j
  ·simp [e2, show (j : Int) = v by omega]
  ·simp [e2, show ¬ (j : Int) = v by omega]
theorem marksM_length {n : Int} (hn : 1 ≤ n) (l : List Int) : ((marksM n l).length : Int) = n := by
 unfold marksM
 rw [setAll_length, List.length_replicate]
 omega
theorem marksM_at {n : Int} (hn : 1 ≤ n) {l : List Int} (h : ∀ v ∈ l, 0 ≤ v ∧ v < n) (j : Nat) : gb (marksM n l) j = true ↔ (j : Int) ∈ l := by
 unfold marksM
 rw [setAll_at _ (fun v hv => by rw [List.length_replicate]; have := h v hv; omega)]
 have : gb (List.replicate n.toNat false) j = false := by
  simp only [gb, List.getD, List.getElem?_replicate]
  split <;> rfl
 simp [this]
theorem impl_marks_ev {n : Int} (hn : 1 ≤ n ∧ n ≤ 1048576) (l : List Int) (hl : l.length ≤ 1048576) (h : ∀ v ∈ l, 0 ≤ v ∧ v < n) : Ev (fun k => impl_marks.f k l n) (marksM n l) := by
 unfold impl_marks.f
 refine Ev.pos (by omega) (Ev.pos (by omega) ?_)
 suffices hh : ∀ (d i : Nat) (x : List Bool), i + d = l.length → (x.length : Int) = n → Ev (fun k => impl_marks.l0 k x l (l.length : Int) (i : Int)) (setAll x (l.drop i)) from hh l.length 0 _ (by omega) (by simp; omega)
 intro d
 induction d with
 | zero =>
  intro i x hi hx
  rw [List.drop_of_length_le (by omega)]
  exact Ev.step (fun _ => impl_marks.l0.eq_2 ..) (Ev.neg (by omega) (Ev.now _))
 | succ d ih =>
  intro i x hi hx
  have hv := h (gd l i) (by rw [gd_lt (by omega)]; exact List.getElem_mem _)
  rw [drop_cons l 0 (by omega)]
  refine Ev.step (fun _ => impl_marks.l0.eq_2 ..) ?_
  rw [rdn, w64s (i := i) (n := l.length) (by omega) (by omega)]
  exact Ev.pos (by omega) (Ev.pos (by omega) (Ev.pos (by omega) (Ev.pos hv.1 (Ev.pos (by omega) (ih (i + 1) _ (by omega) (by simpa using hx))))))
def listTo (x : List Bool) (i : Nat) : List Int := ((List.range i).filter (gb x)).map fun (i : Nat) => (i : Int)
def listM (x : List Bool) : List Int := listTo x x.length
theorem listTo_succ (x : List Bool) (i : Nat) : listTo x (i + 1) = listTo x i ++ if gb x i = true then [(i : Int)] else [] := by
 unfold listTo
 rw [List.range_succ, List.filter_append, List.map_append]
 by_cases h : gb x i = true
 ·simp [h]
 ·simp [h]
theorem listTo_len (x : List Bool) (i : Nat) : (listTo x i).length ≤ i := by
 unfold listTo
 rw [List.length_map]
 have := List.length_filter_le (gb x) (List.range i)
 rwa [List.length_range] at this
theorem listM_mem {x : List Bool} {i : Nat} : (i : Int) ∈ listM x ↔ gb x i = true := by
 unfold listM listTo
 simp only [List.mem_map, List.mem_filter, List.mem_range]
 constructor
 ·rintro ⟨j, ⟨_, h⟩, e⟩
  rwa [show i = j by omega]
 ·intro h
  exact ⟨i, ⟨gb_len h, h⟩, rfl⟩
theorem listM_in {x : List Bool} : ∀ v ∈ listM x, 0 ≤ v ∧ v < (x.length : Int) := by
 intro v hv
 obtain ⟨i, hi, rfl⟩ := List.mem_map.1 hv
 have := List.mem_range.1 (List.mem_filter.1 hi).1
 omega
theorem listM_asc (x : List Bool) : (listM x).Pairwise (· < ·) := by
 unfold listM listTo
 exact List.pairwise_map.2 (List.Pairwise.imp (fun h => by omega) (List.Pairwise.filter _ List.pairwise_lt_range))
theorem listM_count (x : List Bool) : (listM x).length + mf x = x.length := by
 unfold listM listTo mf
 rw [List.length_map, ← List.countP_eq_length_filter]
 have := List.length_eq_countP_add_countP (gb x) (l := List.range x.length)
 rw [List.length_range] at this
 have e : (List.range x.length).countP (fun i => !gb x i) = (List.range x.length).countP (fun a => decide ¬ gb x a = true) := by
  congr 1
  funext i
  cases gb x i <;> rfl
 omega
theorem impl_marked_ev (x : List Bool) (hl : x.length ≤ 1048576) : Ev (fun k => impl_marked.f k x) (listM x) := by
 unfold impl_marked.f
 suffices hh : ∀ (d i : Nat), i + d = x.length → Ev (fun k => impl_marked.l0 k (listTo x i) x (x.length : Int) (i : Int)) (listM x) from hh x.length 0 (by omega)
 intro d
 induction d with
 | zero =>
  intro i hi
  have : i = x.length := by omega
  subst this
  exact Ev.step (fun _ => impl_marked.l0.eq_2 ..) (Ev.neg (by omega) (Ev.now _))
 | succ d ih =>
  intro i hi
  have hs := listTo_succ x i
  have hlen := listTo_len x i
  refine Ev.step (fun _ => impl_marked.l0.eq_2 ..) ?_
  rw [rdb, Int.toNat_natCast, w64s (i := i) (n := x.length) (by omega) (by omega)]
  refine Ev.pos (by omega) (Ev.pos (by omega) (Ev.pos (by omega) (Ev.ite (fun hr => ?_) (fun hr => ?_))))
  ·rw [if_pos hr] at hs
   refine Ev.pos (by omega) ?_
   rw [← hs]
   exact ih (i + 1) (by omega)
  ·rw [if_neg hr, List.append_nil] at hs
   rw [← hs]
   exact ih (i + 1) (by omega)
theorem asc_ext : ∀ (a b : List Int), a.Pairwise (· < ·) → b.Pairwise (· < ·) → (∀ x, x ∈ a ↔ x ∈ b) → a = b := by
 intro a
 induction a with
 | nil =>
  intro b _ _ h
  cases b with
  | nil => rfl
  | cons y b => have := (h y).2 (by simp); simp at this
 | cons x a ih =>
  intro b ha hb h
  cases b with
  | nil => have := (h x).1 (by simp); simp at this
  | cons y b =>
   rw [List.pairwise_cons] at ha hb
   have e : x = y := by
    have h1 := (h x).1 (by simp)
    have h2 := (h y).2 (by simp)
    rcases List.mem_cons.1 h1 with h1 | h1
    ·exact h1
    ·rcases List.mem_cons.1 h2 with h2 | h2
     ·exact h2.symm
     ·have := ha.1 y h2
      have := hb.1 x h1
      omega
   subst e
   rw [ih b ha.2 hb.2 (fun z => ?_)]
   constructor
   ·intro hz
    rcases List.mem_cons.1 ((h z).1 (by simp [hz])) with e | e
    ·have := ha.1 z hz
     omega
    ·exact e
   ·intro hz
    rcases List.mem_cons.1 ((h z).2 (by simp [hz])) with e | e
    ·have := hb.1 z hz
     omega
    ·exact e
def putP (x y : List Int) (v : Int) : Prop := y.Pairwise (· < ·) ∧ (∀ z, z ∈ y ↔ z ∈ x ∨ z = v) ∧ y.length ≤ x.length + 1
theorem put_facts {x : List Int} {v : Int} (hx : x.Pairwise (· < ·)) {i : Nat} (hi : i ≤ x.length) (h1 : ∀ j, j < i → gd x j < v) (h2 : ∀ j, i ≤ j → j < x.length → v < gd x j) : putP x (([] ++ x.take i ++ [v]) ++ x.drop i) v := by
 have a1 : ∀ a ∈ x.take i, a < v := fun a ha => by
  obtain ⟨j, hj, rfl⟩ := List.getElem_of_mem ha
  rw [List.length_take] at hj
  rw [List.getElem_take, ← gd_lt (by omega)]
  exact h1 j (by omega)
 have a2 : ∀ b ∈ x.drop i, v < b := fun b hb => by
  obtain ⟨j, hj, rfl⟩ := List.getElem_of_mem hb
  rw [List.length_drop] at hj
  rw [List.getElem_drop, ← gd_lt (by omega)]
  exact h2 (i + j) (by omega) (by omega)
 refine ⟨?_, fun z => ?_, ?_⟩
 ·rw [List.nil_append]
  refine List.pairwise_append.2 ⟨List.pairwise_append.2 ⟨hx.sublist (List.take_sublist i x), List.pairwise_singleton _ _, fun a ha b hb => ?_⟩, hx.sublist (List.drop_sublist i x), fun a ha b hb => ?_⟩
  ·rw [List.mem_singleton] at hb
   subst hb
   exact a1 a ha
  ·rcases List.mem_append.1 ha with ha | ha
   ·exact Int.lt_trans (a1 a ha) (a2 b hb)
   ·rw [List.mem_singleton] at ha
    subst ha
    exact a2 b hb
 ·have e : z ∈ x ↔ z ∈ x.take i ∨ z ∈ x.drop i := by rw [← List.mem_append, List.take_append_drop]
  rw [e]
  simp only [List.nil_append, List.mem_append, List.mem_singleton]
  constructor
  ·rintro ((h | h) | h)
   ·exact .inl (.inl h)
   ·exact .inr h
   ·exact .inl (.inr h)
  ·rintro ((h | h) | h)
   ·exact .inl (.inl h)
   ·exact .inr h
   ·exact .inl (.inr h)
 ·simp only [List.nil_append, List.length_append, List.length_take, List.length_drop, List.length_cons, List.length_nil]
  omega
theorem spec_l1Put_ev (x : List Int) (v : Int) (hx : x.Pairwise (· < ·)) (hl : x.length ≤ 1048576) : ∃ y, putP x y v ∧ Ev (fun k => spec_l1Put.f k x v) y := by
 unfold spec_l1Put.f
 have up : ∀ i j, i < j → j < x.length → gd x i < gd x j := fun i j h1 h2 => by
  rw [gd_lt (by omega), gd_lt h2]
  exact List.pairwise_iff_getElem.1 hx i j _ _ h1
 suffices hh : ∀ (d i : Nat), i + d = x.length → (∀ j, j < i → gd x j < v) → ∃ y, putP x y v ∧ Ev (fun k => spec_l1Put.l0 k x v (i : Int)) y from hh x.length 0 (by omega) (fun j hj => by omega)
 intro d
 induction d with
 | zero =>
  intro i hi h
  refine ⟨_, put_facts hx (i := i) (by omega) h (fun j h1 h2 => by omega), Ev.step (fun _ => spec_l1Put.l0.eq_2 ..) (Ev.neg (by omega) ?_)⟩
  rw [Int.toNat_natCast]
  refine Ev.bind1 (Ev.pos (by omega) (Ev.pos (by omega) (Ev.bind1 (Ev.pos ?_ (Ev.bind1 (Ev.bind1 (Ev.pos ?_ (Ev.bind1 (Ev.bind1 (Ev.pos ?_ (Ev.now _)))))))))))
  all_goals (simp only [List.nil_append, List.length_append, List.length_take, List.length_drop, List.length_cons, List.length_nil]; omega)
 | succ d ih =>
  intro i hi h
  rcases Int.lt_trichotomy (gd x i) v with h1 | h1 | h1
  ·obtain ⟨y, y1, y2⟩ := ih (i + 1) (by omega) (fun j hj => by
    by_cases e : j = i
    ·rw [e]; exact h1
    ·exact h j (by omega))
   refine ⟨y, y1, Ev.step (fun _ => spec_l1Put.l0.eq_2 ..) (Ev.pos (by omega) (Ev.pos (by omega) ?_))⟩
   rw [rdn, w64s (i := i) (n := x.length) (by omega) (by omega)]
   exact Ev.pos h1 y2
  ·refine ⟨x, ⟨hx, fun z => ⟨fun hz => .inl hz, fun hz => ?_⟩, by omega⟩, Ev.step (fun _ => spec_l1Put.l0.eq_2 ..) (Ev.pos (by omega) (Ev.pos (by omega) ?_))⟩
   ·rcases hz with hz | rfl
    ·exact hz
    ·rw [← h1, gd_lt (by omega)]
     exact List.getElem_mem _
   ·rw [rdn]
    exact Ev.neg (by omega) (Ev.pos h1 (Ev.now _))
  ·refine ⟨_, put_facts hx (i := i) (by omega) h (fun j h2 h3 => ?_), Ev.step (fun _ => spec_l1Put.l0.eq_2 ..) (Ev.pos (by omega) (Ev.pos (by omega) ?_))⟩
   ·by_cases e : j = i
    ·rw [e]; exact h1
    ·exact Int.lt_trans h1 (up i j (by omega) h3)
   ·rw [rdn, Int.toNat_natCast]
    refine Ev.neg (by omega) (Ev.neg (by omega) (Ev.bind1 (Ev.pos (by omega) (Ev.bind1 (Ev.pos ?_ (Ev.bind1 (Ev.bind1 (Ev.pos ?_ (Ev.bind1 (Ev.bind1 (Ev.pos ?_ (Ev.now _))))))))))))
    all_goals (simp only [List.nil_append, List.length_append, List.length_take, List.length_drop, List.length_cons, List.length_nil]; omega)
theorem put_loop {γ : Type} (l : List Int) (L : Nat → List Int → Int → Option γ) (fin : List Int → γ) (hl : l.length ≤ 1048576)
  (hend : ∀ y, Ev (fun k => L k y (l.length : Int)) (fin y))
  (hstep : ∀ (i : Nat) (x y : List Int), i < l.length → x.length ≤ i → Ev (fun k => spec_l1Put.f k x (gd l i)) y → ∀ r, Ev (fun k => L k y ((i + 1 : Nat) : Int)) r → Ev (fun k => L k x (i : Int)) r) :
  ∃ y, (y.Pairwise (· < ·) ∧ ∀ z, z ∈ y ↔ z ∈ l) ∧ Ev (fun k => L k [] ((0 : Nat) : Int)) (fin y) := by
 suffices hh : ∀ (d i : Nat) (x : List Int), i + d = l.length → x.Pairwise (· < ·) → (∀ z, z ∈ x ↔ z ∈ l.take i) → x.length ≤ i → ∃ y, (y.Pairwise (· < ·) ∧ ∀ z, z ∈ y ↔ z ∈ l) ∧ Ev (fun k => L k x (i : Int)) (fin y) from hh l.length 0 [] (by omega) List.Pairwise.nil (fun z => by simp) (by simp)
 intro d
 induction d with
 | zero =>
  intro i x hi hx hm hlen
  have : i = l.length := by omega
  subst this
  exact ⟨x, ⟨hx, fun z => by rw [hm, List.take_length]⟩, hend x⟩
 | succ d ih =>
  intro i x hi hx hm hlen
  obtain ⟨y, ⟨y1, y2, y3⟩, y4⟩ := spec_l1Put_ev x (gd l i) hx (by omega)
  obtain ⟨q, q1, q2⟩ := ih (i + 1) y (by omega) y1 (fun z => by
   rw [y2, hm, ← take_snoc l (by omega), List.mem_append, List.mem_singleton]) (by omega)
  exact ⟨q, q1, hstep i x y (by omega) hlen y4 _ q2⟩
theorem images_one {m : Int} (hm : 1 ≤ m) {l y : List Int} (h : ∀ v ∈ l, 0 ≤ v ∧ v < m) (hy : y.Pairwise (· < ·)) (hz : ∀ z, z ∈ y ↔ z ∈ l) : y = listM (marksM m l) := by
 refine asc_ext _ _ hy (listM_asc _) (fun z => ?_)
 rw [hz]
 constructor
 ·intro h1
  have h2 := h z h1
  obtain ⟨i, rfl⟩ : ∃ i : Nat, z = (i : Int) := ⟨z.toNat, by omega⟩
  exact listM_mem.2 ((marksM_at hm h i).2 h1)
 ·intro h1
  have h2 := listM_in z h1
  obtain ⟨i, rfl⟩ : ∃ i : Nat, z = (i : Int) := ⟨z.toNat, by omega⟩
  exact (marksM_at hm h i).1 (listM_mem.1 h1)
theorem impl_imagesOf_ev {m : Int} (hm : 1 ≤ m ∧ m ≤ 8) (l : List Int) (hl : l.length ≤ 1048576) (h : ∀ v ∈ l, 0 ≤ v ∧ v < m) : Ev (fun k => impl_imagesOf.f k l m) (listM (marksM m l)) := by
 have h1 := marksM_length hm.1 l
 unfold impl_imagesOf.f
 exact (impl_marks_ev ⟨by omega, by omega⟩ l hl h).bind ((impl_marked_ev _ (by omega)).bind (Ev.now _))
theorem images_len {m : Int} (hm : 1 ≤ m ∧ m ≤ 8) (l : List Int) : (listM (marksM m l)).length ≤ 8 := by
 have h1 := marksM_length hm.1 l
 have h2 := listM_count (marksM m l)
 omega
theorem markIntS_loop (l : List Int) (a : Int) (ha : 0 ≤ a) (hb : a + l.length ≤ 4611686018427387904) : ∀ (d i : Nat) (x : List Int), i + d = l.length → x.length = l.length → (∀ j, j < i → gd x j = a + j) → Ev (fun k => laws_markIntS.l0 k x (a + i) (i : Int)) (a + l.length, asc l.length a) := by
 intro d
 induction d with
 | zero =>
  intro i x hi hx h
  refine Ev.step (fun _ => laws_markIntS.l0.eq_2 ..) ?_
  refine Ev.neg (by omega) ?_
  have : x = asc l.length a := by
   apply List.ext_getElem (by simp [asc_length, hx])
   intro j h1 h2
   have e := h j (by omega)
   rw [← gd_lt h1, ← gd_lt h2, e, asc_at a (by omega)]
  subst this
  have : i = l.length := by omega
  subst this
  exact Ev.now _
 | succ d ih =>
  intro i x hi hx h
  refine Ev.step (fun _ => laws_markIntS.l0.eq_2 ..) ?_
  refine Ev.pos (by omega) ?_
  refine Ev.pos (by omega) ?_
  rw [w64s (n := l.length) (by omega) (by omega), w64 (by omega) (by omega), Int.toNat_natCast, show a + (i : Int) + 1 = a + ((i + 1 : Nat) : Int) by omega]
  refine ih (i + 1) _ (by omega) (by simpa using hx) ?_
  intro j hj
  by_cases e : j = i
  ·subst e
   simp [gd, List.getD, show j < x.length by omega]
  ·have := h j (by omega)
   simp only [gd, List.getD] at this ⊢
   rw [List.getElem?_set_ne (by omega)]
   exact this
theorem markIntS_ev (l : List Int) (a : Int) (ha : 0 ≤ a) (hb : a + l.length ≤ 4611686018427387904) : Ev (fun k => laws_markIntS.f k l a) (a + l.length, asc l.length a) := by
 unfold laws_markIntS.f
 have := markIntS_loop l a ha hb l.length 0 l (by omega) rfl (fun j hj => by omega)
 simpa using this
theorem heldIntS_loop (n : Nat) (a : Int) (ha : 0 ≤ a) (hb : a + n ≤ 4611686018427387904) : ∀ (d i : Nat), i + d = n → Ev (fun k => laws_heldIntS.l0 k (asc n a) (a + i) (i : Int)) (a + n) := by
 intro d
 induction d with
 | zero =>
  intro i hi
  refine Ev.step (fun _ => laws_heldIntS.l0.eq_2 ..) ?_
  refine Ev.neg (by rw [asc_length]; omega) ?_
  have : i = n := by omega
  subst this
  exact Ev.now _
 | succ d ih =>
  intro i hi
  refine Ev.step (fun _ => laws_heldIntS.l0.eq_2 ..) ?_
  refine Ev.pos (by rw [asc_length]; omega) ?_
  refine Ev.pos (by omega) ?_
  refine Ev.pos (by rw [rdn, asc_at a (by omega)]) ?_
  rw [w64s (n := n) (by omega) (by omega), w64 (by omega) (by omega), show a + (i : Int) + 1 = a + ((i + 1 : Nat) : Int) by omega]
  exact ih (i + 1) (by omega)
theorem heldIntS_ev (n : Nat) (a : Int) (ha : 0 ≤ a) (hb : a + n ≤ 4611686018427387904) : Ev (fun k => laws_heldIntS.f k (asc n a) a) (a + n) := by
 unfold laws_heldIntS.f
 have := heldIntS_loop n a ha hb n 0 (by omega)
 simpa using this
theorem totO_bound (xs : List IOp) (n m : Nat) (h : xs.length ≤ n) (h' : ∀ x ∈ xs, x.f1.length ≤ m) : totO xs ≤ n * (m + 1) := by
 have key : ∀ xs : List IOp, (∀ x ∈ xs, x.f1.length ≤ m) → totO xs ≤ xs.length * (m + 1) := by
  intro xs
  induction xs with
  | nil => intro _; simp [totO]
  | cons x xs ih =>
   intro h
   have h1 := h x (by simp)
   have h2 := ih (fun y hy => h y (by simp [hy]))
   simp only [totO, List.map_cons, List.sum_cons, List.length_cons, Nat.succ_mul] at h2 ⊢
   omega
 exact Nat.le_trans (key xs h') (Nat.mul_le_mul_right (m + 1) h)
theorem size_gives {l : List LOp} {t : Int} (h : 0 ≤ t → (l.length : Int) ≤ 1048576 ∧ ∀ x ∈ l, (x.f1.length : Int) ≤ 1048576) (ht : 0 ≤ t) :
  l.length ≤ 8796093022208 ∧ (∀ x ∈ l, x.f1.length ≤ 35184372088832) ∧ fitO (conv l) ∧ 1 + (totO (conv l) : Int) ≤ 4611686018427387904 := by
 have h1 := h ht
 have hl : l.length ≤ 1048576 := by omega
 have hx : ∀ x ∈ l, x.f1.length ≤ 1048576 := fun x hx => by have := h1.2 x hx; omega
 have hf := conv_fit l (by omega) hx
 have := totO_bound (conv l) 1048576 1048576 (by rw [conv_length]; exact hl) hf.2
 exact ⟨by omega, fun x h => by have := hx x h; omega, hf, by omega⟩
def imgM (n : Int) (A : List IOp) (m : Int) (B : List IOp) (f : List Int) : List Int × Bool := if likeB n A m B = true ∧ homB n A m B f = true then (listM (marksM m f), true) else ([], false)
theorem homB_map {n m : Int} {A B : List IOp} {f : List Int} (h : homB n A m B f = true) : (f.length : Int) = n ∧ ∀ x ∈ f, 0 ≤ x ∧ x < m := by
 simp only [homB, Bool.and_eq_true] at h
 have := map_of h.1
 refine ⟨this.1, fun x hx => ?_⟩
 obtain ⟨i, hi, rfl⟩ := List.getElem_of_mem hx
 have := this.2 i hi
 rwa [gd_lt hi] at this
theorem impl_ImageOf_ev (n : Int) (A : List IOp) (m : Int) (B : List IOp) (f : List Int) (hA : fitO A) (hB : fitO B) (hl : f.length ≤ 1048576) : Ev (fun k => impl_ImageOf.f k n A m B f) (imgM n A m B f) := by
 unfold impl_ImageOf.f imgM
 refine (impl_areAlike_ev n m A B hA hB).bind (Ev.ite (fun h => ?_) (fun h => (Ev.now _).to (by simp [h])))
 refine (impl_isHom_ev n m A B f h hl).bind (Ev.ite (fun h' => ?_) (fun h' => (Ev.now _).to (by simp [h'])))
 exact (impl_imagesOf_ev (algB_size (like_of h).2.1) f hl (homB_map h').2).bind ((Ev.now _).to (by simp [h, h']))
theorem spec_ImageOf_ev (n : Int) (A : List IOp) (m : Int) (B : List IOp) (f : List Int) (hA : fitO A) (hB : fitO B) (hl : f.length ≤ 1048576) : Ev (fun k => spec_ImageOf.f k n A m B f) (imgM n A m B f) := by
 unfold spec_ImageOf.f imgM
 refine (spec_l7Two_ev n m A B hA hB).bind (Ev.ite (fun h => ?_) (fun h => (Ev.now _).to (by simp [h])))
 refine (spec_l7Is_ev n m A B f h hl).bind (Ev.ite (fun h' => ?_) (fun h' => (Ev.now _).to (by simp [h'])))
 have hm := algB_size (like_of h).2.1
 have hf := homB_map h'
 refine (?_ : Ev (fun k => spec_l7Image.f k f) (listM (marksM m f))).bind ((Ev.now _).to (by simp [h, h']))
 unfold spec_l7Image.f
 obtain ⟨y, ⟨y1, y2⟩, y3⟩ := put_loop f (fun k out i => spec_l7Image.l0 k f out i) id hl (fun y => Ev.step (fun _ => spec_l7Image.l0.eq_2 ..) (Ev.neg (by omega) (Ev.now _))) (fun i x y hi hx h1 r h2 => by
  refine Ev.step (fun _ => spec_l7Image.l0.eq_2 ..) ?_
  rw [rdn, w64s (i := i) (n := f.length) (by omega) (by omega)]
  exact Ev.pos (by omega) (Ev.pos (by omega) (h1.bind h2)))
 rw [← images_one hm.1 hf.2 y1 y2]
 exact y3
theorem imgM_small (n : Int) (A : List IOp) (m : Int) (B : List IOp) (f : List Int) : (imgM n A m B f).1.length ≤ 8 := by
 unfold imgM
 split
 ·rename_i h
  exact images_len (algB_size (like_of h.1).2.1) f
 ·simp
theorem FnExactImageOf : Stmt.FnExactImageOf := by
 intro a0 l0 a1 l1 l2 _ hm0 hg0 _ hm1 hg1 hm2 _ z2
 obtain ⟨t0, s0, m0, n0, c0⟩ := laws_szAlgebra_ev a0 l0 1048576 hm0 (fun x hx => (hg0 x hx).2.1) (by omega)
 by_cases d0 : 0 ≤ t0
 ·have C0 : 0 ≤ t0 → (l0.length : Int) ≤ 1048576 ∧ ∀ x ∈ l0, (x.f1.length : Int) ≤ 1048576 := fun h => ⟨by have := (c0 h).1; omega, fun x hx => by have := (c0 h).2 x hx; omega⟩
  obtain ⟨g1_0, g2_0, g3_0, g4_0⟩ := size_gives C0 d0
  have T0 := totO_bound (conv l0) 1048576 1048576 (by rw [conv_length]; have := (C0 d0).1; omega) g3_0.2
  obtain ⟨t1, s1, m1, n1, c1⟩ := laws_szAlgebra_ev a1 l1 t0 hm1 (fun x hx => (hg1 x hx).2.1) ⟨d0, by omega⟩
  by_cases d1 : 0 ≤ t1
  ·have C1 : 0 ≤ t1 → (l1.length : Int) ≤ 1048576 ∧ ∀ x ∈ l1, (x.f1.length : Int) ≤ 1048576 := fun h => ⟨by have := (c1 h).1; omega, fun x hx => by have := (c1 h).2 x hx; omega⟩
   obtain ⟨g1_1, g2_1, g3_1, g4_1⟩ := size_gives C1 d1
   have T1 := totO_bound (conv l1) 1048576 1048576 (by rw [conv_length]; have := (C1 d1).1; omega) g3_1.2
   have hd := imgM_small a0 (conv l0) a1 (conv l1) l2
   obtain ⟨k, e0, e1, e2, e3, e4, e5, e6, e7, e8, e9, e10, e11, e12, e13⟩ := ((Evs.of s0).and ((Evs.of s1).and ((Evs.of (laws_toAlgebra_ev a0 l0 g1_0 g2_0)).and ((Evs.of (laws_toAlgebra_ev a1 l1 g1_1 g2_1)).and ((Evs.of (toIntS_ev l2 (by omega))).and ((Evs.of (spec_ImageOf_ev a0 (conv l0) a1 (conv l1) l2 g3_0 g3_1 z2)).and ((Evs.of (impl_ImageOf_ev a0 (conv l0) a1 (conv l1) l2 g3_0 g3_1 z2)).and ((Evs.of (eqIntS_same (imgM a0 (conv l0) a1 (conv l1) l2).1 (by omega))).and ((Evs.of (laws_eqAlgebra_same a0 (conv l0) g3_0)).and ((Evs.of (laws_eqAlgebra_same a1 (conv l1) g3_1)).and ((Evs.of (eqIntS_same l2 (by omega))).and ((Evs.of (markIntS_ev l2 ((1 + (totO (conv l0) : Int)) + (totO (conv l1) : Int)) (by omega) (by omega))).and ((Evs.of (markIntS_ev (imgM a0 (conv l0) a1 (conv l1) l2).1 1 (by omega) (by omega))).and (Evs.of (heldIntS_ev (imgM a0 (conv l0) a1 (conv l1) l2).1.length 1 (by omega) (by omega)))))))))))))))).ex
   exact ⟨k, t0, e0, fun _ => ⟨t1, e1, fun _ => ⟨a0, (conv l0), a1, (conv l1), l2, (imgM a0 (conv l0) a1 (conv l1) l2).1, (imgM a0 (conv l0) a1 (conv l1) l2).2, e2, e3, e4, e5, e6, e7, e8, e9, e10, e11, e12, e13, by omega, by omega⟩⟩⟩
  ·obtain ⟨k, e0, e1⟩ := ((Evs.of s0).and (Evs.of s1)).ex
   exact ⟨k, t0, e0, fun _ => ⟨t1, e1, fun h => absurd h d1⟩⟩
 ·obtain ⟨k, e0⟩ := (Evs.of s0).ex
  exact ⟨k, t0, e0, fun h => absurd h d0⟩
end Go.Proofs.Ytnnbgfphinemfaa.Pure

namespace Go.Proofs.Ytnnbgfphinemfaa
open Go.RowKit Go.Proofs.YtnnbgfphinemfaaW.PrintWords Go.Proofs.YtnnbgfphinemfaaW.PrintLast Go.Proofs.YtnnbgfphinemfaaW.PrintMore Go.Proofs.Ytnnbgfphinemfaa.Live Go.Proofs.Ytnnbgfphinemfaa.Q
set_option linter.unusedVariables false
set_option linter.unusedSimpArgs false
set_option maxRecDepth 100000
set_option maxHeartbeats 8000000 in
theorem Walk.FnExactImageOf (a0 : Int) (A0 : Option Addr) (c0 : Nat) (l0 : List (Q.S110)) (a1 : Int) (A1 : Option Addr) (c1 : Nat) (l1 : List (Q.S110)) (A2 : Option Addr) (c2 : Nat) (l2 : List (Int)) (W : World) (hr0 : Kd.C k110 W A0 l0.length l0) (hc0 : l0.length ≤ c0) (hr1 : Kd.C k110 W A1 l1.length l1) (hc1 : l1.length ≤ c1) (hr2 : Kd.C (Kd.int .i64) W A2 l2.length l2) (hc2 : l2.length ≤ c2) (g0 : (Lit.int .i64 a0).wf = true) (hm0 : l0.length ≤ maxLen) (hg0 : ∀ x ∈ l0, (Lit.int .i64 x.f0).wf = true ∧ x.f1.length ≤ maxLen ∧ ∀ y_x ∈ x.f1, (Lit.int .i64 y_x).wf = true) (g1 : (Lit.int .i64 a1).wf = true) (hm1 : l1.length ≤ maxLen) (hg1 : ∀ x ∈ l1, (Lit.int .i64 x.f0).wf = true ∧ x.f1.length ≤ maxLen ∧ ∀ y_x ∈ x.f1, (Lit.int .i64 y_x).wf = true) (hm2 : l2.length ≤ maxLen) (hg2 : ∀ x ∈ l2, (Lit.int .i64 x).wf = true) :
  Calls Try.prog 9 #[.agg #[.int .i64 a0, .slice A0 l0.length c0], .agg #[.int .i64 a1, .slice A1 l1.length c1], .slice A2 l2.length c2] W fun e w' => e = .returned (.bool true) ∧ Below W.heap.size W w' := by
 have P := fun z0 => Pure.FnExactImageOf a0 l0 a1 l1 l2 g0 hm0 hg0 g1 hm1 hg1 hm2 hg2 z0
 have hu24 := Try.underlying24
 have hu25 := Try.underlying25
 have hu31 := Try.underlying31
 have HR0 := Aside0.mk hr0
 have HC0 := Aside0.mk hc0
 have hm0_ : l0.length ≤ 9223372036854775807 := by unfold maxLen at hm0; omega
 have HR1 := Aside0.mk hr1
 have HC1 := Aside0.mk hc1
 have hm1_ : l1.length ≤ 9223372036854775807 := by unfold maxLen at hm1; omega
 have HR2 := Aside0.mk hr2
 have HC2 := Aside0.mk hc2
 have hm2_ : l2.length ≤ 9223372036854775807 := by unfold maxLen at hm2; omega
 clear hr0 hc0 hr1 hc1 hr2 hc2 g0 hm0 hg0 g1 hm1 hg1 hm2 hg2
 by_cases cl2 : 1048576 < l2.length
 ·have q2 : decide (1048576 < (l2.length : Int)) = true := decide_eq_true (by omega)
  have qn2 : decide (1048576 < l2.length) = true := decide_eq_true cl2
  clear P
  go_enter Try.func9, Try.ntmps9
  obtain ⟨lox1, hix1, HLx1⟩ := Live.make_box (Live.nil W) (.cells #[.int .i64 a0, .slice A0 l0.length c0] 24) (W.heap.size) (by simp)
  obtain ⟨lox2, hix2, HLx2⟩ := Live.make_box HLx1 (.cells #[.int .i64 a1, .slice A1 l1.length c1] 24) (W.heap.size + 1) (by simp)
  go_wp2
  go_ret
  exact ⟨rfl, below_alloc (below_alloc (Below.refl _ _) _) _⟩
 have q2 : decide (1048576 < (l2.length : Int)) = false := decide_eq_false (by omega)
 have qn2 : decide (1048576 < l2.length) = false := decide_eq_false cl2
 replace P := P
 obtain ⟨k, P⟩ := P (by omega)
 obtain ⟨t0, hF0, P⟩ := P
 have F0 := Aside0.mk hF0
 clear hF0
 have HP4 := Aside0.mk P
 clear P
 by_cases d4 : t0 < 0
 ·have q4 : decide (t0 < 0) = true := decide_eq_true d4
  go_enter Try.func9, Try.ntmps9
  obtain ⟨lox1, hix1, HLx1⟩ := Live.make_box (Live.nil W) (.cells #[.int .i64 a0, .slice A0 l0.length c0] 24) (W.heap.size) (by simp)
  obtain ⟨lox2, hix2, HLx2⟩ := Live.make_box HLx1 (.cells #[.int .i64 a1, .slice A1 l1.length c1] 24) (W.heap.size + 1) (by simp)
  go_wp2_with fail
  (with_reducible refine (laws_szAlgebra.calls k a0 _ _ l0 1048576 t0 _ (Kd.C_below HR0.out (below_alloc (below_alloc (Below.refl _ _) _) _)) HC0.out F0.out).mono ?_)
  rintro e w3 ⟨rfl, hbw3⟩
  have HLw3 := Aside0.mk (HLx2.below hbw3)
  have HBw3 := Aside0.mk (below_step (below_alloc (below_alloc (Below.refl _ _) _) _) (hbw3))
  clear hbw3
  have hxb3_0_w3 : w3.cell? ⟨W.heap.size, 0, none⟩ = some (.int .i64 a0) := (blk_cell (HLw3.out.get 1 rfl).1 0).trans rfl
  have hxb3_1_w3 : w3.cell? ⟨W.heap.size, 1, none⟩ = some (.slice A0 l0.length c0) := (blk_cell (HLw3.out.get 1 rfl).1 1).trans rfl
  have hxb4_0_w3 : w3.cell? ⟨W.heap.size + 1, 0, none⟩ = some (.int .i64 a1) := (blk_cell (HLw3.out.get 0 rfl).1 0).trans rfl
  have hxb4_1_w3 : w3.cell? ⟨W.heap.size + 1, 1, none⟩ = some (.slice A1 l1.length c1) := (blk_cell (HLw3.out.get 0 rfl).1 1).trans rfl
  go_wp2
  go_ret
  exact ⟨rfl, HBw3.out⟩
 have q4 : decide (t0 < 0) = false := decide_eq_false d4
 have P := HP4.out (by omega)
 clear HP4
 obtain ⟨t1, hF1, P⟩ := P
 have F1 := Aside0.mk hF1
 clear hF1
 have HP6 := Aside0.mk P
 clear P
 by_cases d6 : t1 < 0
 ·have q6 : decide (t1 < 0) = true := decide_eq_true d6
  go_enter Try.func9, Try.ntmps9
  obtain ⟨lox1, hix1, HLx1⟩ := Live.make_box (Live.nil W) (.cells #[.int .i64 a0, .slice A0 l0.length c0] 24) (W.heap.size) (by simp)
  obtain ⟨lox2, hix2, HLx2⟩ := Live.make_box HLx1 (.cells #[.int .i64 a1, .slice A1 l1.length c1] 24) (W.heap.size + 1) (by simp)
  go_wp2_with fail
  (with_reducible refine (laws_szAlgebra.calls k a0 _ _ l0 1048576 t0 _ (Kd.C_below HR0.out (below_alloc (below_alloc (Below.refl _ _) _) _)) HC0.out F0.out).mono ?_)
  rintro e w3 ⟨rfl, hbw3⟩
  have HLw3 := Aside0.mk (HLx2.below hbw3)
  have HBw3 := Aside0.mk (below_step (below_alloc (below_alloc (Below.refl _ _) _) _) (hbw3))
  clear hbw3
  have hxb3_0_w3 : w3.cell? ⟨W.heap.size, 0, none⟩ = some (.int .i64 a0) := (blk_cell (HLw3.out.get 1 rfl).1 0).trans rfl
  have hxb3_1_w3 : w3.cell? ⟨W.heap.size, 1, none⟩ = some (.slice A0 l0.length c0) := (blk_cell (HLw3.out.get 1 rfl).1 1).trans rfl
  have hxb4_0_w3 : w3.cell? ⟨W.heap.size + 1, 0, none⟩ = some (.int .i64 a1) := (blk_cell (HLw3.out.get 0 rfl).1 0).trans rfl
  have hxb4_1_w3 : w3.cell? ⟨W.heap.size + 1, 1, none⟩ = some (.slice A1 l1.length c1) := (blk_cell (HLw3.out.get 0 rfl).1 1).trans rfl
  go_wp2_with fail
  (with_reducible refine (laws_szAlgebra.calls k a1 _ _ l1 t0 t1 _ (Kd.C_below HR1.out (HBw3.out)) HC1.out F1.out).mono ?_)
  rintro e w4 ⟨rfl, hbw4⟩
  have HLw4 := Aside0.mk (HLw3.out.below hbw4)
  have HBw4 := Aside0.mk (below_step (HBw3.out) (hbw4))
  clear hbw4
  have hxb3_0_w4 : w4.cell? ⟨W.heap.size, 0, none⟩ = some (.int .i64 a0) := (blk_cell (HLw4.out.get 1 rfl).1 0).trans rfl
  have hxb3_1_w4 : w4.cell? ⟨W.heap.size, 1, none⟩ = some (.slice A0 l0.length c0) := (blk_cell (HLw4.out.get 1 rfl).1 1).trans rfl
  have hxb4_0_w4 : w4.cell? ⟨W.heap.size + 1, 0, none⟩ = some (.int .i64 a1) := (blk_cell (HLw4.out.get 0 rfl).1 0).trans rfl
  have hxb4_1_w4 : w4.cell? ⟨W.heap.size + 1, 1, none⟩ = some (.slice A1 l1.length c1) := (blk_cell (HLw4.out.get 0 rfl).1 1).trans rfl
  go_wp2
  go_ret
  exact ⟨rfl, HBw4.out⟩
 have q6 : decide (t1 < 0) = false := decide_eq_false d6
 have P := HP6.out (by omega)
 clear HP6
 obtain ⟨X0, X1, X2, X3, X4, X5, X6, hF2, hF3, hF4, hF5, hF6, hF7, hF8, hF9, hF10, hF11, hF12, hF13, hB0, hB1⟩ := P
 have F2 := Aside0.mk hF2
 have F3 := Aside0.mk hF3
 have F4 := Aside0.mk hF4
 have F5 := Aside0.mk hF5
 have F6 := Aside0.mk hF6
 have F7 := Aside0.mk hF7
 have F8 := Aside0.mk hF8
 have F9 := Aside0.mk hF9
 have F10 := Aside0.mk hF10
 have F11 := Aside0.mk hF11
 have F12 := Aside0.mk hF12
 have F13 := Aside0.mk hF13
 have HBD := Aside0.mk (show (1 + (totO X1 : Int)) ≤ 4611686018427387904 ∧ ((1 + (totO X1 : Int)) + (totO X3 : Int)) ≤ 4611686018427387904 from ⟨hB0, hB1⟩)
 clear hF2 hF3 hF4 hF5 hF6 hF7 hF8 hF9 hF10 hF11 hF12 hF13 hB0 hB1
 have hneX0 : (X0 != X0) = false := bne_self_eq_false X0
 have hneX2 : (X2 != X2) = false := bne_self_eq_false X2
 have hneX6 : (X6 != X6) = false := bne_self_eq_false X6
 go_enter Try.func9, Try.ntmps9
 obtain ⟨lox1, hix1, HLx1⟩ := Live.make_box (Live.nil W) (.cells #[.int .i64 a0, .slice A0 l0.length c0] 24) (W.heap.size) (by simp)
 obtain ⟨lox2, hix2, HLx2⟩ := Live.make_box HLx1 (.cells #[.int .i64 a1, .slice A1 l1.length c1] 24) (W.heap.size + 1) (by simp)
 go_wp2_with fail
 (with_reducible refine (laws_szAlgebra.calls k a0 _ _ l0 1048576 t0 _ (Kd.C_below HR0.out (below_alloc (below_alloc (Below.refl _ _) _) _)) HC0.out F0.out).mono ?_)
 rintro e w3 ⟨rfl, hbw3⟩
 have HLw3 := Aside0.mk (HLx2.below hbw3)
 have HBw3 := Aside0.mk (below_step (below_alloc (below_alloc (Below.refl _ _) _) _) (hbw3))
 clear hbw3
 have hxb3_0_w3 : w3.cell? ⟨W.heap.size, 0, none⟩ = some (.int .i64 a0) := (blk_cell (HLw3.out.get 1 rfl).1 0).trans rfl
 have hxb3_1_w3 : w3.cell? ⟨W.heap.size, 1, none⟩ = some (.slice A0 l0.length c0) := (blk_cell (HLw3.out.get 1 rfl).1 1).trans rfl
 have hxb4_0_w3 : w3.cell? ⟨W.heap.size + 1, 0, none⟩ = some (.int .i64 a1) := (blk_cell (HLw3.out.get 0 rfl).1 0).trans rfl
 have hxb4_1_w3 : w3.cell? ⟨W.heap.size + 1, 1, none⟩ = some (.slice A1 l1.length c1) := (blk_cell (HLw3.out.get 0 rfl).1 1).trans rfl
 go_wp2_with fail
 (with_reducible refine (laws_szAlgebra.calls k a1 _ _ l1 t0 t1 _ (Kd.C_below HR1.out (HBw3.out)) HC1.out F1.out).mono ?_)
 rintro e w4 ⟨rfl, hbw4⟩
 have HLw4 := Aside0.mk (HLw3.out.below hbw4)
 have HBw4 := Aside0.mk (below_step (HBw3.out) (hbw4))
 clear hbw4
 have hxb3_0_w4 : w4.cell? ⟨W.heap.size, 0, none⟩ = some (.int .i64 a0) := (blk_cell (HLw4.out.get 1 rfl).1 0).trans rfl
 have hxb3_1_w4 : w4.cell? ⟨W.heap.size, 1, none⟩ = some (.slice A0 l0.length c0) := (blk_cell (HLw4.out.get 1 rfl).1 1).trans rfl
 have hxb4_0_w4 : w4.cell? ⟨W.heap.size + 1, 0, none⟩ = some (.int .i64 a1) := (blk_cell (HLw4.out.get 0 rfl).1 0).trans rfl
 have hxb4_1_w4 : w4.cell? ⟨W.heap.size + 1, 1, none⟩ = some (.slice A1 l1.length c1) := (blk_cell (HLw4.out.get 0 rfl).1 1).trans rfl
 go_wp2_with fail
 go_region_held3 (fun w' => w'.cell? ⟨W.heap.size, 0, none⟩ = some (.int .i64 a0) ∧ w'.cell? ⟨W.heap.size, 1, none⟩ = some (.slice A0 l0.length c0) ∧ w'.cell? ⟨W.heap.size + 1, 0, none⟩ = some (.int .i64 a1) ∧ w'.cell? ⟨W.heap.size + 1, 1, none⟩ = some (.slice A1 l1.length c1)) (first | (simp [*]; done) | go_keep) (first | (go_at_call 17; (with_reducible refine (laws_toAlgebra.calls k a0 _ _ l0 X0 X1 _ (Kd.C_below HR0.out (below_drew1 (HBw4.out))) HC0.out F2.out).mono ?_); rintro e w5 ⟨vw5_0, rfl, how5_0, hbw5⟩; obtain ⟨Aw5, cw5, rfl⟩ := Kd.S_slice how5_0; obtain ⟨low5, hiw5, hlw5⟩ := Live.make_S (Live.drew HLw4.out) hbw5 how5_0 (below_size (below_drew1 (HBw4.out))); have HLw5 := Aside0.mk hlw5; clear hlw5 how5_0; have HBw5 := Aside0.mk (below_step (below_drew1 (HBw4.out)) (hbw5)); clear hbw5; have hxb3_0_w5 : w5.cell? ⟨W.heap.size, 0, none⟩ = some (.int .i64 a0) := (blk_cell (HLw5.out.get 2 rfl).1 0).trans rfl; have hxb3_1_w5 : w5.cell? ⟨W.heap.size, 1, none⟩ = some (.slice A0 l0.length c0) := (blk_cell (HLw5.out.get 2 rfl).1 1).trans rfl; have hxb4_0_w5 : w5.cell? ⟨W.heap.size + 1, 0, none⟩ = some (.int .i64 a1) := (blk_cell (HLw5.out.get 1 rfl).1 0).trans rfl; have hxb4_1_w5 : w5.cell? ⟨W.heap.size + 1, 1, none⟩ = some (.slice A1 l1.length c1) := (blk_cell (HLw5.out.get 1 rfl).1 1).trans rfl) | (go_at_call 17; (with_reducible refine (laws_toAlgebra.calls k a1 _ _ l1 X2 X3 _ (Kd.C_below HR1.out (HBw5.out)) HC1.out F3.out).mono ?_); rintro e w6 ⟨vw6_0, rfl, how6_0, hbw6⟩; obtain ⟨Aw6, cw6, rfl⟩ := Kd.S_slice how6_0; obtain ⟨low6, hiw6, hlw6⟩ := Live.make_S HLw5.out hbw6 how6_0 (below_size (HBw5.out)); have HLw6 := Aside0.mk hlw6; clear hlw6 how6_0; have HBw6 := Aside0.mk (below_step (HBw5.out) (hbw6)); clear hbw6; have hxb3_0_w6 : w6.cell? ⟨W.heap.size, 0, none⟩ = some (.int .i64 a0) := (blk_cell (HLw6.out.get 3 rfl).1 0).trans rfl; have hxb3_1_w6 : w6.cell? ⟨W.heap.size, 1, none⟩ = some (.slice A0 l0.length c0) := (blk_cell (HLw6.out.get 3 rfl).1 1).trans rfl; have hxb4_0_w6 : w6.cell? ⟨W.heap.size + 1, 0, none⟩ = some (.int .i64 a1) := (blk_cell (HLw6.out.get 2 rfl).1 0).trans rfl; have hxb4_1_w6 : w6.cell? ⟨W.heap.size + 1, 1, none⟩ = some (.slice A1 l1.length c1) := (blk_cell (HLw6.out.get 2 rfl).1 1).trans rfl) | (go_at_call 18; (with_reducible refine (laws_toIntS.calls k _ _ l2 X4 _ (Kd.C_below HR2.out (HBw6.out)) HC2.out F4.out).mono ?_); rintro e w7 ⟨vw7_0, rfl, how7_0, hbw7⟩; obtain ⟨Aw7, cw7, rfl⟩ := Kd.R_slice how7_0; obtain ⟨low7, hiw7, hlw7⟩ := Live.make_R HLw6.out hbw7 how7_0 (below_size (HBw6.out)); have HLw7 := Aside0.mk hlw7; clear hlw7 how7_0; have HBw7 := Aside0.mk (below_step (HBw6.out) (hbw7)); clear hbw7; have hxb3_0_w7 : w7.cell? ⟨W.heap.size, 0, none⟩ = some (.int .i64 a0) := (blk_cell (HLw7.out.get 4 rfl).1 0).trans rfl; have hxb3_1_w7 : w7.cell? ⟨W.heap.size, 1, none⟩ = some (.slice A0 l0.length c0) := (blk_cell (HLw7.out.get 4 rfl).1 1).trans rfl; have hxb4_0_w7 : w7.cell? ⟨W.heap.size + 1, 0, none⟩ = some (.int .i64 a1) := (blk_cell (HLw7.out.get 3 rfl).1 0).trans rfl; have hxb4_1_w7 : w7.cell? ⟨W.heap.size + 1, 1, none⟩ = some (.slice A1 l1.length c1) := (blk_cell (HLw7.out.get 3 rfl).1 1).trans rfl) | (go_at_call 38; (with_reducible refine (spec_ImageOf.calls k X0 _ _ X1 X2 _ _ X3 _ _ X4 X5 X6 _ (Kd.S_reads' (HLw7.out.get 2 rfl)).2.2 (Kd.S_reads' (HLw7.out.get 2 rfl)).2.1 (Kd.S_reads' (HLw7.out.get 1 rfl)).2.2 (Kd.S_reads' (HLw7.out.get 1 rfl)).2.1 (Kd.R_reads' (HLw7.out.get 0 rfl)).2.2 (Kd.R_reads' (HLw7.out.get 0 rfl)).2.1 F5.out).mono ?_); rintro e w8 ⟨vw8_0, rfl, how8_0, hbw8⟩; obtain ⟨Aw8, cw8, rfl⟩ := Kd.R_slice how8_0; obtain ⟨low8, hiw8, hlw8⟩ := Live.make_R HLw7.out hbw8 how8_0 (below_size (HBw7.out)); have HLw8 := Aside0.mk hlw8; clear hlw8 how8_0; have HBw8 := Aside0.mk (below_step (HBw7.out) (hbw8)); clear hbw8; have hxb3_0_w8 : w8.cell? ⟨W.heap.size, 0, none⟩ = some (.int .i64 a0) := (blk_cell (HLw8.out.get 5 rfl).1 0).trans rfl; have hxb3_1_w8 : w8.cell? ⟨W.heap.size, 1, none⟩ = some (.slice A0 l0.length c0) := (blk_cell (HLw8.out.get 5 rfl).1 1).trans rfl; have hxb4_0_w8 : w8.cell? ⟨W.heap.size + 1, 0, none⟩ = some (.int .i64 a1) := (blk_cell (HLw8.out.get 4 rfl).1 0).trans rfl; have hxb4_1_w8 : w8.cell? ⟨W.heap.size + 1, 1, none⟩ = some (.slice A1 l1.length c1) := (blk_cell (HLw8.out.get 4 rfl).1 1).trans rfl))
 go_wp2_with fail
 (with_reducible refine (laws_toAlgebra.calls k a0 _ _ l0 X0 X1 _ (Kd.C_below HR0.out (HBw8.out)) HC0.out F2.out).mono ?_)
 rintro e w9 ⟨vw9_0, rfl, how9_0, hbw9⟩
 obtain ⟨Aw9, cw9, rfl⟩ := Kd.S_slice how9_0
 obtain ⟨low9, hiw9, hlw9⟩ := Live.make_S HLw8.out hbw9 how9_0 (below_size (HBw8.out))
 have HLw9 := Aside0.mk hlw9
 clear hlw9 how9_0
 have HBw9 := Aside0.mk (below_step (HBw8.out) (hbw9))
 clear hbw9
 have hxb3_0_w9 : w9.cell? ⟨W.heap.size, 0, none⟩ = some (.int .i64 a0) := (blk_cell (HLw9.out.get 6 rfl).1 0).trans rfl
 have hxb3_1_w9 : w9.cell? ⟨W.heap.size, 1, none⟩ = some (.slice A0 l0.length c0) := (blk_cell (HLw9.out.get 6 rfl).1 1).trans rfl
 have hxb4_0_w9 : w9.cell? ⟨W.heap.size + 1, 0, none⟩ = some (.int .i64 a1) := (blk_cell (HLw9.out.get 5 rfl).1 0).trans rfl
 have hxb4_1_w9 : w9.cell? ⟨W.heap.size + 1, 1, none⟩ = some (.slice A1 l1.length c1) := (blk_cell (HLw9.out.get 5 rfl).1 1).trans rfl
 obtain ⟨lox10, hix10, HLx10⟩ := Live.make_box HLw9.out (.cells #[.int .i64 X0, .slice Aw9 X1.length cw9] 31) (w9.heap.size) (by simp)
 have hxb3_0_w9allocce : (w9.alloc (.cells #[.int .i64 X0, .slice Aw9 X1.length cw9] 31)).cell? ⟨W.heap.size, 0, none⟩ = some (.int .i64 a0) := (blk_cell (HLx10.get 7 rfl).1 0).trans rfl
 have hxb3_1_w9allocce : (w9.alloc (.cells #[.int .i64 X0, .slice Aw9 X1.length cw9] 31)).cell? ⟨W.heap.size, 1, none⟩ = some (.slice A0 l0.length c0) := (blk_cell (HLx10.get 7 rfl).1 1).trans rfl
 have hxb4_0_w9allocce : (w9.alloc (.cells #[.int .i64 X0, .slice Aw9 X1.length cw9] 31)).cell? ⟨W.heap.size + 1, 0, none⟩ = some (.int .i64 a1) := (blk_cell (HLx10.get 6 rfl).1 0).trans rfl
 have hxb4_1_w9allocce : (w9.alloc (.cells #[.int .i64 X0, .slice Aw9 X1.length cw9] 31)).cell? ⟨W.heap.size + 1, 1, none⟩ = some (.slice A1 l1.length c1) := (blk_cell (HLx10.get 6 rfl).1 1).trans rfl
 go_wp2_with fail
 (with_reducible refine (laws_toAlgebra.calls k a1 _ _ l1 X2 X3 _ (Kd.C_below HR1.out (below_alloc (HBw9.out) _)) HC1.out F3.out).mono ?_)
 rintro e w11 ⟨vw11_0, rfl, how11_0, hbw11⟩
 obtain ⟨Aw11, cw11, rfl⟩ := Kd.S_slice how11_0
 obtain ⟨low11, hiw11, hlw11⟩ := Live.make_S HLx10 hbw11 how11_0 (below_size (below_alloc (HBw9.out) _))
 have HLw11 := Aside0.mk hlw11
 clear hlw11 how11_0
 have HBw11 := Aside0.mk (below_step (below_alloc (HBw9.out) _) (hbw11))
 clear hbw11
 have hxb3_0_w11 : w11.cell? ⟨W.heap.size, 0, none⟩ = some (.int .i64 a0) := (blk_cell (HLw11.out.get 8 rfl).1 0).trans rfl
 have hxb3_1_w11 : w11.cell? ⟨W.heap.size, 1, none⟩ = some (.slice A0 l0.length c0) := (blk_cell (HLw11.out.get 8 rfl).1 1).trans rfl
 have hxb4_0_w11 : w11.cell? ⟨W.heap.size + 1, 0, none⟩ = some (.int .i64 a1) := (blk_cell (HLw11.out.get 7 rfl).1 0).trans rfl
 have hxb4_1_w11 : w11.cell? ⟨W.heap.size + 1, 1, none⟩ = some (.slice A1 l1.length c1) := (blk_cell (HLw11.out.get 7 rfl).1 1).trans rfl
 have hxb10_0_w11 : w11.cell? ⟨w9.heap.size, 0, none⟩ = some (.int .i64 X0) := (blk_cell (HLw11.out.get 1 rfl).1 0).trans rfl
 have hxb10_1_w11 : w11.cell? ⟨w9.heap.size, 1, none⟩ = some (.slice Aw9 X1.length cw9) := (blk_cell (HLw11.out.get 1 rfl).1 1).trans rfl
 obtain ⟨lox12, hix12, HLx12⟩ := Live.make_box HLw11.out (.cells #[.int .i64 X2, .slice Aw11 X3.length cw11] 31) (w11.heap.size) (by simp)
 have hxb3_0_w11allocc : (w11.alloc (.cells #[.int .i64 X2, .slice Aw11 X3.length cw11] 31)).cell? ⟨W.heap.size, 0, none⟩ = some (.int .i64 a0) := (blk_cell (HLx12.get 9 rfl).1 0).trans rfl
 have hxb3_1_w11allocc : (w11.alloc (.cells #[.int .i64 X2, .slice Aw11 X3.length cw11] 31)).cell? ⟨W.heap.size, 1, none⟩ = some (.slice A0 l0.length c0) := (blk_cell (HLx12.get 9 rfl).1 1).trans rfl
 have hxb4_0_w11allocc : (w11.alloc (.cells #[.int .i64 X2, .slice Aw11 X3.length cw11] 31)).cell? ⟨W.heap.size + 1, 0, none⟩ = some (.int .i64 a1) := (blk_cell (HLx12.get 8 rfl).1 0).trans rfl
 have hxb4_1_w11allocc : (w11.alloc (.cells #[.int .i64 X2, .slice Aw11 X3.length cw11] 31)).cell? ⟨W.heap.size + 1, 1, none⟩ = some (.slice A1 l1.length c1) := (blk_cell (HLx12.get 8 rfl).1 1).trans rfl
 have hxb10_0_w11allocc : (w11.alloc (.cells #[.int .i64 X2, .slice Aw11 X3.length cw11] 31)).cell? ⟨w9.heap.size, 0, none⟩ = some (.int .i64 X0) := (blk_cell (HLx12.get 2 rfl).1 0).trans rfl
 have hxb10_1_w11allocc : (w11.alloc (.cells #[.int .i64 X2, .slice Aw11 X3.length cw11] 31)).cell? ⟨w9.heap.size, 1, none⟩ = some (.slice Aw9 X1.length cw9) := (blk_cell (HLx12.get 2 rfl).1 1).trans rfl
 go_wp2_with fail
 (with_reducible refine (laws_toIntS.calls k _ _ l2 X4 _ (Kd.C_below HR2.out (below_alloc (HBw11.out) _)) HC2.out F4.out).mono ?_)
 rintro e w13 ⟨vw13_0, rfl, how13_0, hbw13⟩
 obtain ⟨Aw13, cw13, rfl⟩ := Kd.R_slice how13_0
 obtain ⟨low13, hiw13, hlw13⟩ := Live.make_R HLx12 hbw13 how13_0 (below_size (below_alloc (HBw11.out) _))
 have HLw13 := Aside0.mk hlw13
 clear hlw13 how13_0
 have HBw13 := Aside0.mk (below_step (below_alloc (HBw11.out) _) (hbw13))
 clear hbw13
 have hxb3_0_w13 : w13.cell? ⟨W.heap.size, 0, none⟩ = some (.int .i64 a0) := (blk_cell (HLw13.out.get 10 rfl).1 0).trans rfl
 have hxb3_1_w13 : w13.cell? ⟨W.heap.size, 1, none⟩ = some (.slice A0 l0.length c0) := (blk_cell (HLw13.out.get 10 rfl).1 1).trans rfl
 have hxb4_0_w13 : w13.cell? ⟨W.heap.size + 1, 0, none⟩ = some (.int .i64 a1) := (blk_cell (HLw13.out.get 9 rfl).1 0).trans rfl
 have hxb4_1_w13 : w13.cell? ⟨W.heap.size + 1, 1, none⟩ = some (.slice A1 l1.length c1) := (blk_cell (HLw13.out.get 9 rfl).1 1).trans rfl
 have hxb10_0_w13 : w13.cell? ⟨w9.heap.size, 0, none⟩ = some (.int .i64 X0) := (blk_cell (HLw13.out.get 3 rfl).1 0).trans rfl
 have hxb10_1_w13 : w13.cell? ⟨w9.heap.size, 1, none⟩ = some (.slice Aw9 X1.length cw9) := (blk_cell (HLw13.out.get 3 rfl).1 1).trans rfl
 have hxb11_0_w13 : w13.cell? ⟨w11.heap.size, 0, none⟩ = some (.int .i64 X2) := (blk_cell (HLw13.out.get 1 rfl).1 0).trans rfl
 have hxb11_1_w13 : w13.cell? ⟨w11.heap.size, 1, none⟩ = some (.slice Aw11 X3.length cw11) := (blk_cell (HLw13.out.get 1 rfl).1 1).trans rfl
 go_wp2_with fail
 (with_reducible refine (impl_ImageOf.calls k X0 _ _ X1 X2 _ _ X3 _ _ X4 X5 X6 _ (Kd.S_reads' (HLw13.out.get 4 rfl)).2.2 (Kd.S_reads' (HLw13.out.get 4 rfl)).2.1 (Kd.S_reads' (HLw13.out.get 2 rfl)).2.2 (Kd.S_reads' (HLw13.out.get 2 rfl)).2.1 (Kd.R_reads' (HLw13.out.get 0 rfl)).2.2 (Kd.R_reads' (HLw13.out.get 0 rfl)).2.1 F6.out).mono ?_)
 rintro e w14 ⟨vw14_0, rfl, how14_0, hbw14⟩
 obtain ⟨Aw14, cw14, rfl⟩ := Kd.R_slice how14_0
 obtain ⟨low14, hiw14, hlw14⟩ := Live.make_R HLw13.out hbw14 how14_0 (below_size (HBw13.out))
 have HLw14 := Aside0.mk hlw14
 clear hlw14 how14_0
 have HBw14 := Aside0.mk (below_step (HBw13.out) (hbw14))
 clear hbw14
 have hxb3_0_w14 : w14.cell? ⟨W.heap.size, 0, none⟩ = some (.int .i64 a0) := (blk_cell (HLw14.out.get 11 rfl).1 0).trans rfl
 have hxb3_1_w14 : w14.cell? ⟨W.heap.size, 1, none⟩ = some (.slice A0 l0.length c0) := (blk_cell (HLw14.out.get 11 rfl).1 1).trans rfl
 have hxb4_0_w14 : w14.cell? ⟨W.heap.size + 1, 0, none⟩ = some (.int .i64 a1) := (blk_cell (HLw14.out.get 10 rfl).1 0).trans rfl
 have hxb4_1_w14 : w14.cell? ⟨W.heap.size + 1, 1, none⟩ = some (.slice A1 l1.length c1) := (blk_cell (HLw14.out.get 10 rfl).1 1).trans rfl
 have hxb10_0_w14 : w14.cell? ⟨w9.heap.size, 0, none⟩ = some (.int .i64 X0) := (blk_cell (HLw14.out.get 4 rfl).1 0).trans rfl
 have hxb10_1_w14 : w14.cell? ⟨w9.heap.size, 1, none⟩ = some (.slice Aw9 X1.length cw9) := (blk_cell (HLw14.out.get 4 rfl).1 1).trans rfl
 have hxb11_0_w14 : w14.cell? ⟨w11.heap.size, 0, none⟩ = some (.int .i64 X2) := (blk_cell (HLw14.out.get 2 rfl).1 0).trans rfl
 have hxb11_1_w14 : w14.cell? ⟨w11.heap.size, 1, none⟩ = some (.slice Aw11 X3.length cw11) := (blk_cell (HLw14.out.get 2 rfl).1 1).trans rfl
 go_wp2_with fail
 (with_reducible refine (laws_eqIntS.calls k _ _ X5 _ _ X5 true _ (Kd.R_reads' (HLw14.out.get 0 rfl)).2.2 (Kd.R_reads' (HLw14.out.get 0 rfl)).2.1 (Kd.R_reads' (HLw14.out.get 6 rfl)).2.2 (Kd.R_reads' (HLw14.out.get 6 rfl)).2.1 F7.out).mono ?_)
 rintro e w15 ⟨rfl, hbw15⟩
 have HLw15 := Aside0.mk (HLw14.out.below hbw15.below)
 have HBw15 := Aside0.mk (below_step (HBw14.out) (hbw15.below))
 clear hbw15
 have hxb3_0_w15 : w15.cell? ⟨W.heap.size, 0, none⟩ = some (.int .i64 a0) := (blk_cell (HLw15.out.get 11 rfl).1 0).trans rfl
 have hxb3_1_w15 : w15.cell? ⟨W.heap.size, 1, none⟩ = some (.slice A0 l0.length c0) := (blk_cell (HLw15.out.get 11 rfl).1 1).trans rfl
 have hxb4_0_w15 : w15.cell? ⟨W.heap.size + 1, 0, none⟩ = some (.int .i64 a1) := (blk_cell (HLw15.out.get 10 rfl).1 0).trans rfl
 have hxb4_1_w15 : w15.cell? ⟨W.heap.size + 1, 1, none⟩ = some (.slice A1 l1.length c1) := (blk_cell (HLw15.out.get 10 rfl).1 1).trans rfl
 have hxb10_0_w15 : w15.cell? ⟨w9.heap.size, 0, none⟩ = some (.int .i64 X0) := (blk_cell (HLw15.out.get 4 rfl).1 0).trans rfl
 have hxb10_1_w15 : w15.cell? ⟨w9.heap.size, 1, none⟩ = some (.slice Aw9 X1.length cw9) := (blk_cell (HLw15.out.get 4 rfl).1 1).trans rfl
 have hxb11_0_w15 : w15.cell? ⟨w11.heap.size, 0, none⟩ = some (.int .i64 X2) := (blk_cell (HLw15.out.get 2 rfl).1 0).trans rfl
 have hxb11_1_w15 : w15.cell? ⟨w11.heap.size, 1, none⟩ = some (.slice Aw11 X3.length cw11) := (blk_cell (HLw15.out.get 2 rfl).1 1).trans rfl
 go_wp2_with fail
 go_region_held3 (fun w' => w'.cell? ⟨W.heap.size, 0, none⟩ = some (.int .i64 a0) ∧ w'.cell? ⟨W.heap.size, 1, none⟩ = some (.slice A0 l0.length c0) ∧ w'.cell? ⟨W.heap.size + 1, 0, none⟩ = some (.int .i64 a1) ∧ w'.cell? ⟨W.heap.size + 1, 1, none⟩ = some (.slice A1 l1.length c1) ∧ w'.cell? ⟨w9.heap.size, 0, none⟩ = some (.int .i64 X0) ∧ w'.cell? ⟨w9.heap.size, 1, none⟩ = some (.slice Aw9 X1.length cw9) ∧ w'.cell? ⟨w11.heap.size, 0, none⟩ = some (.int .i64 X2) ∧ w'.cell? ⟨w11.heap.size, 1, none⟩ = some (.slice Aw11 X3.length cw11)) (first | (simp [*]; done) | go_keep) (first | (go_at_call 17; (with_reducible refine (laws_toAlgebra.calls k a0 _ _ l0 X0 X1 _ (Kd.C_below HR0.out (below_drew1 (HBw15.out))) HC0.out F2.out).mono ?_); rintro e w16 ⟨vw16_0, rfl, how16_0, hbw16⟩; obtain ⟨Aw16, cw16, rfl⟩ := Kd.S_slice how16_0; obtain ⟨low16, hiw16, hlw16⟩ := Live.make_S (Live.drew HLw15.out) hbw16 how16_0 (below_size (below_drew1 (HBw15.out))); have HLw16 := Aside0.mk hlw16; clear hlw16 how16_0; have HBw16 := Aside0.mk (below_step (below_drew1 (HBw15.out)) (hbw16)); clear hbw16; have hxb3_0_w16 : w16.cell? ⟨W.heap.size, 0, none⟩ = some (.int .i64 a0) := (blk_cell (HLw16.out.get 12 rfl).1 0).trans rfl; have hxb3_1_w16 : w16.cell? ⟨W.heap.size, 1, none⟩ = some (.slice A0 l0.length c0) := (blk_cell (HLw16.out.get 12 rfl).1 1).trans rfl; have hxb4_0_w16 : w16.cell? ⟨W.heap.size + 1, 0, none⟩ = some (.int .i64 a1) := (blk_cell (HLw16.out.get 11 rfl).1 0).trans rfl; have hxb4_1_w16 : w16.cell? ⟨W.heap.size + 1, 1, none⟩ = some (.slice A1 l1.length c1) := (blk_cell (HLw16.out.get 11 rfl).1 1).trans rfl; have hxb10_0_w16 : w16.cell? ⟨w9.heap.size, 0, none⟩ = some (.int .i64 X0) := (blk_cell (HLw16.out.get 5 rfl).1 0).trans rfl; have hxb10_1_w16 : w16.cell? ⟨w9.heap.size, 1, none⟩ = some (.slice Aw9 X1.length cw9) := (blk_cell (HLw16.out.get 5 rfl).1 1).trans rfl; have hxb11_0_w16 : w16.cell? ⟨w11.heap.size, 0, none⟩ = some (.int .i64 X2) := (blk_cell (HLw16.out.get 3 rfl).1 0).trans rfl; have hxb11_1_w16 : w16.cell? ⟨w11.heap.size, 1, none⟩ = some (.slice Aw11 X3.length cw11) := (blk_cell (HLw16.out.get 3 rfl).1 1).trans rfl) | (go_at_call 21; (with_reducible refine (laws_eqAlgebra.calls k X0 _ _ X1 X0 _ _ X1 true _ (Kd.S_reads' (HLw16.out.get 6 rfl)).2.2 (Kd.S_reads' (HLw16.out.get 6 rfl)).2.1 (Kd.S_reads' (HLw16.out.get 0 rfl)).2.2 (Kd.S_reads' (HLw16.out.get 0 rfl)).2.1 F8.out).mono ?_); rintro e w17 ⟨rfl, hbw17⟩; have HLw17 := Aside0.mk (HLw16.out.below hbw17); have HBw17 := Aside0.mk (below_step (HBw16.out) (hbw17)); clear hbw17; have hxb3_0_w17 : w17.cell? ⟨W.heap.size, 0, none⟩ = some (.int .i64 a0) := (blk_cell (HLw17.out.get 12 rfl).1 0).trans rfl; have hxb3_1_w17 : w17.cell? ⟨W.heap.size, 1, none⟩ = some (.slice A0 l0.length c0) := (blk_cell (HLw17.out.get 12 rfl).1 1).trans rfl; have hxb4_0_w17 : w17.cell? ⟨W.heap.size + 1, 0, none⟩ = some (.int .i64 a1) := (blk_cell (HLw17.out.get 11 rfl).1 0).trans rfl; have hxb4_1_w17 : w17.cell? ⟨W.heap.size + 1, 1, none⟩ = some (.slice A1 l1.length c1) := (blk_cell (HLw17.out.get 11 rfl).1 1).trans rfl; have hxb10_0_w17 : w17.cell? ⟨w9.heap.size, 0, none⟩ = some (.int .i64 X0) := (blk_cell (HLw17.out.get 5 rfl).1 0).trans rfl; have hxb10_1_w17 : w17.cell? ⟨w9.heap.size, 1, none⟩ = some (.slice Aw9 X1.length cw9) := (blk_cell (HLw17.out.get 5 rfl).1 1).trans rfl; have hxb11_0_w17 : w17.cell? ⟨w11.heap.size, 0, none⟩ = some (.int .i64 X2) := (blk_cell (HLw17.out.get 3 rfl).1 0).trans rfl; have hxb11_1_w17 : w17.cell? ⟨w11.heap.size, 1, none⟩ = some (.slice Aw11 X3.length cw11) := (blk_cell (HLw17.out.get 3 rfl).1 1).trans rfl))
 go_wp2_with fail
 go_region_held3 (fun w' => w'.cell? ⟨W.heap.size, 0, none⟩ = some (.int .i64 a0) ∧ w'.cell? ⟨W.heap.size, 1, none⟩ = some (.slice A0 l0.length c0) ∧ w'.cell? ⟨W.heap.size + 1, 0, none⟩ = some (.int .i64 a1) ∧ w'.cell? ⟨W.heap.size + 1, 1, none⟩ = some (.slice A1 l1.length c1) ∧ w'.cell? ⟨w9.heap.size, 0, none⟩ = some (.int .i64 X0) ∧ w'.cell? ⟨w9.heap.size, 1, none⟩ = some (.slice Aw9 X1.length cw9) ∧ w'.cell? ⟨w11.heap.size, 0, none⟩ = some (.int .i64 X2) ∧ w'.cell? ⟨w11.heap.size, 1, none⟩ = some (.slice Aw11 X3.length cw11)) (first | (simp [*]; done) | go_keep) (first | (go_at_call 17; (with_reducible refine (laws_toAlgebra.calls k a1 _ _ l1 X2 X3 _ (Kd.C_below HR1.out (below_drew1 (HBw17.out))) HC1.out F3.out).mono ?_); rintro e w18 ⟨vw18_0, rfl, how18_0, hbw18⟩; obtain ⟨Aw18, cw18, rfl⟩ := Kd.S_slice how18_0; obtain ⟨low18, hiw18, hlw18⟩ := Live.make_S (Live.drew HLw17.out) hbw18 how18_0 (below_size (below_drew1 (HBw17.out))); have HLw18 := Aside0.mk hlw18; clear hlw18 how18_0; have HBw18 := Aside0.mk (below_step (below_drew1 (HBw17.out)) (hbw18)); clear hbw18; have hxb3_0_w18 : w18.cell? ⟨W.heap.size, 0, none⟩ = some (.int .i64 a0) := (blk_cell (HLw18.out.get 13 rfl).1 0).trans rfl; have hxb3_1_w18 : w18.cell? ⟨W.heap.size, 1, none⟩ = some (.slice A0 l0.length c0) := (blk_cell (HLw18.out.get 13 rfl).1 1).trans rfl; have hxb4_0_w18 : w18.cell? ⟨W.heap.size + 1, 0, none⟩ = some (.int .i64 a1) := (blk_cell (HLw18.out.get 12 rfl).1 0).trans rfl; have hxb4_1_w18 : w18.cell? ⟨W.heap.size + 1, 1, none⟩ = some (.slice A1 l1.length c1) := (blk_cell (HLw18.out.get 12 rfl).1 1).trans rfl; have hxb10_0_w18 : w18.cell? ⟨w9.heap.size, 0, none⟩ = some (.int .i64 X0) := (blk_cell (HLw18.out.get 6 rfl).1 0).trans rfl; have hxb10_1_w18 : w18.cell? ⟨w9.heap.size, 1, none⟩ = some (.slice Aw9 X1.length cw9) := (blk_cell (HLw18.out.get 6 rfl).1 1).trans rfl; have hxb11_0_w18 : w18.cell? ⟨w11.heap.size, 0, none⟩ = some (.int .i64 X2) := (blk_cell (HLw18.out.get 4 rfl).1 0).trans rfl; have hxb11_1_w18 : w18.cell? ⟨w11.heap.size, 1, none⟩ = some (.slice Aw11 X3.length cw11) := (blk_cell (HLw18.out.get 4 rfl).1 1).trans rfl) | (go_at_call 21; (with_reducible refine (laws_eqAlgebra.calls k X2 _ _ X3 X2 _ _ X3 true _ (Kd.S_reads' (HLw18.out.get 5 rfl)).2.2 (Kd.S_reads' (HLw18.out.get 5 rfl)).2.1 (Kd.S_reads' (HLw18.out.get 0 rfl)).2.2 (Kd.S_reads' (HLw18.out.get 0 rfl)).2.1 F9.out).mono ?_); rintro e w19 ⟨rfl, hbw19⟩; have HLw19 := Aside0.mk (HLw18.out.below hbw19); have HBw19 := Aside0.mk (below_step (HBw18.out) (hbw19)); clear hbw19; have hxb3_0_w19 : w19.cell? ⟨W.heap.size, 0, none⟩ = some (.int .i64 a0) := (blk_cell (HLw19.out.get 13 rfl).1 0).trans rfl; have hxb3_1_w19 : w19.cell? ⟨W.heap.size, 1, none⟩ = some (.slice A0 l0.length c0) := (blk_cell (HLw19.out.get 13 rfl).1 1).trans rfl; have hxb4_0_w19 : w19.cell? ⟨W.heap.size + 1, 0, none⟩ = some (.int .i64 a1) := (blk_cell (HLw19.out.get 12 rfl).1 0).trans rfl; have hxb4_1_w19 : w19.cell? ⟨W.heap.size + 1, 1, none⟩ = some (.slice A1 l1.length c1) := (blk_cell (HLw19.out.get 12 rfl).1 1).trans rfl; have hxb10_0_w19 : w19.cell? ⟨w9.heap.size, 0, none⟩ = some (.int .i64 X0) := (blk_cell (HLw19.out.get 6 rfl).1 0).trans rfl; have hxb10_1_w19 : w19.cell? ⟨w9.heap.size, 1, none⟩ = some (.slice Aw9 X1.length cw9) := (blk_cell (HLw19.out.get 6 rfl).1 1).trans rfl; have hxb11_0_w19 : w19.cell? ⟨w11.heap.size, 0, none⟩ = some (.int .i64 X2) := (blk_cell (HLw19.out.get 4 rfl).1 0).trans rfl; have hxb11_1_w19 : w19.cell? ⟨w11.heap.size, 1, none⟩ = some (.slice Aw11 X3.length cw11) := (blk_cell (HLw19.out.get 4 rfl).1 1).trans rfl))
 go_wp2_with fail
 (with_reducible refine (laws_toIntS.calls k _ _ l2 X4 _ (Kd.C_below HR2.out (HBw19.out)) HC2.out F4.out).mono ?_)
 rintro e w20 ⟨vw20_0, rfl, how20_0, hbw20⟩
 obtain ⟨Aw20, cw20, rfl⟩ := Kd.R_slice how20_0
 obtain ⟨low20, hiw20, hlw20⟩ := Live.make_R HLw19.out hbw20 how20_0 (below_size (HBw19.out))
 have HLw20 := Aside0.mk hlw20
 clear hlw20 how20_0
 have HBw20 := Aside0.mk (below_step (HBw19.out) (hbw20))
 clear hbw20
 have hxb3_0_w20 : w20.cell? ⟨W.heap.size, 0, none⟩ = some (.int .i64 a0) := (blk_cell (HLw20.out.get 14 rfl).1 0).trans rfl
 have hxb3_1_w20 : w20.cell? ⟨W.heap.size, 1, none⟩ = some (.slice A0 l0.length c0) := (blk_cell (HLw20.out.get 14 rfl).1 1).trans rfl
 have hxb4_0_w20 : w20.cell? ⟨W.heap.size + 1, 0, none⟩ = some (.int .i64 a1) := (blk_cell (HLw20.out.get 13 rfl).1 0).trans rfl
 have hxb4_1_w20 : w20.cell? ⟨W.heap.size + 1, 1, none⟩ = some (.slice A1 l1.length c1) := (blk_cell (HLw20.out.get 13 rfl).1 1).trans rfl
 have hxb10_0_w20 : w20.cell? ⟨w9.heap.size, 0, none⟩ = some (.int .i64 X0) := (blk_cell (HLw20.out.get 7 rfl).1 0).trans rfl
 have hxb10_1_w20 : w20.cell? ⟨w9.heap.size, 1, none⟩ = some (.slice Aw9 X1.length cw9) := (blk_cell (HLw20.out.get 7 rfl).1 1).trans rfl
 have hxb11_0_w20 : w20.cell? ⟨w11.heap.size, 0, none⟩ = some (.int .i64 X2) := (blk_cell (HLw20.out.get 5 rfl).1 0).trans rfl
 have hxb11_1_w20 : w20.cell? ⟨w11.heap.size, 1, none⟩ = some (.slice Aw11 X3.length cw11) := (blk_cell (HLw20.out.get 5 rfl).1 1).trans rfl
 go_wp2_with fail
 (with_reducible refine (laws_eqIntS.calls k _ _ X4 _ _ X4 true _ (Kd.R_reads' (HLw20.out.get 4 rfl)).2.2 (Kd.R_reads' (HLw20.out.get 4 rfl)).2.1 (Kd.R_reads' (HLw20.out.get 0 rfl)).2.2 (Kd.R_reads' (HLw20.out.get 0 rfl)).2.1 F10.out).mono ?_)
 rintro e w21 ⟨rfl, hbw21⟩
 have HLw21 := Aside0.mk (HLw20.out.below hbw21.below)
 have HBw21 := Aside0.mk (below_step (HBw20.out) (hbw21.below))
 clear hbw21
 have hxb3_0_w21 : w21.cell? ⟨W.heap.size, 0, none⟩ = some (.int .i64 a0) := (blk_cell (HLw21.out.get 14 rfl).1 0).trans rfl
 have hxb3_1_w21 : w21.cell? ⟨W.heap.size, 1, none⟩ = some (.slice A0 l0.length c0) := (blk_cell (HLw21.out.get 14 rfl).1 1).trans rfl
 have hxb4_0_w21 : w21.cell? ⟨W.heap.size + 1, 0, none⟩ = some (.int .i64 a1) := (blk_cell (HLw21.out.get 13 rfl).1 0).trans rfl
 have hxb4_1_w21 : w21.cell? ⟨W.heap.size + 1, 1, none⟩ = some (.slice A1 l1.length c1) := (blk_cell (HLw21.out.get 13 rfl).1 1).trans rfl
 have hxb10_0_w21 : w21.cell? ⟨w9.heap.size, 0, none⟩ = some (.int .i64 X0) := (blk_cell (HLw21.out.get 7 rfl).1 0).trans rfl
 have hxb10_1_w21 : w21.cell? ⟨w9.heap.size, 1, none⟩ = some (.slice Aw9 X1.length cw9) := (blk_cell (HLw21.out.get 7 rfl).1 1).trans rfl
 have hxb11_0_w21 : w21.cell? ⟨w11.heap.size, 0, none⟩ = some (.int .i64 X2) := (blk_cell (HLw21.out.get 5 rfl).1 0).trans rfl
 have hxb11_1_w21 : w21.cell? ⟨w11.heap.size, 1, none⟩ = some (.slice Aw11 X3.length cw11) := (blk_cell (HLw21.out.get 5 rfl).1 1).trans rfl
 go_wp2_with fail
 (with_reducible refine (laws_markAlgebra.marks X0 (fun k => low9 ≤ k ∧ k < hiw9) _ X1 1 W _ (HBw21.out) (HLw21.out.get 8 rfl) (by have := HBD.out; omega) (by have := HBD.out; omega)).mono ?_)
 rintro e w22 ⟨rfl, hm1, hm2, hm3⟩
 have HLw22 := Aside0.mk (Live.mark HLw21.out 8 rfl hm3 (seg_S hm1 (fun k hk _ _ => hk) (Nat.le_refl _)))
 have HBw22 := Aside0.mk hm2
 clear hm1 hm2 hm3
 have hxb3_0_w22 : w22.cell? ⟨W.heap.size, 0, none⟩ = some (.int .i64 a0) := (blk_cell (HLw22.out.get 14 rfl).1 0).trans rfl
 have hxb3_1_w22 : w22.cell? ⟨W.heap.size, 1, none⟩ = some (.slice A0 l0.length c0) := (blk_cell (HLw22.out.get 14 rfl).1 1).trans rfl
 have hxb4_0_w22 : w22.cell? ⟨W.heap.size + 1, 0, none⟩ = some (.int .i64 a1) := (blk_cell (HLw22.out.get 13 rfl).1 0).trans rfl
 have hxb4_1_w22 : w22.cell? ⟨W.heap.size + 1, 1, none⟩ = some (.slice A1 l1.length c1) := (blk_cell (HLw22.out.get 13 rfl).1 1).trans rfl
 have hxb10_0_w22 : w22.cell? ⟨w9.heap.size, 0, none⟩ = some (.int .i64 X0) := (blk_cell (HLw22.out.get 7 rfl).1 0).trans rfl
 have hxb10_1_w22 : w22.cell? ⟨w9.heap.size, 1, none⟩ = some (.slice Aw9 X1.length cw9) := (blk_cell (HLw22.out.get 7 rfl).1 1).trans rfl
 have hxb11_0_w22 : w22.cell? ⟨w11.heap.size, 0, none⟩ = some (.int .i64 X2) := (blk_cell (HLw22.out.get 5 rfl).1 0).trans rfl
 have hxb11_1_w22 : w22.cell? ⟨w11.heap.size, 1, none⟩ = some (.slice Aw11 X3.length cw11) := (blk_cell (HLw22.out.get 5 rfl).1 1).trans rfl
 go_wp2_with fail
 (with_reducible refine (laws_markAlgebra.marks X2 (fun k => low11 ≤ k ∧ k < hiw11) _ X3 (1 + (totO X1 : Int)) W _ (HBw22.out) (HLw22.out.get 6 rfl) (by have := HBD.out; omega) (by have := HBD.out; omega)).mono ?_)
 rintro e w23 ⟨rfl, hm1, hm2, hm3⟩
 have HLw23 := Aside0.mk (Live.mark HLw22.out 6 rfl hm3 (seg_S hm1 (fun k hk _ _ => hk) (Nat.le_refl _)))
 have HBw23 := Aside0.mk hm2
 clear hm1 hm2 hm3
 have hxb3_0_w23 : w23.cell? ⟨W.heap.size, 0, none⟩ = some (.int .i64 a0) := (blk_cell (HLw23.out.get 14 rfl).1 0).trans rfl
 have hxb3_1_w23 : w23.cell? ⟨W.heap.size, 1, none⟩ = some (.slice A0 l0.length c0) := (blk_cell (HLw23.out.get 14 rfl).1 1).trans rfl
 have hxb4_0_w23 : w23.cell? ⟨W.heap.size + 1, 0, none⟩ = some (.int .i64 a1) := (blk_cell (HLw23.out.get 13 rfl).1 0).trans rfl
 have hxb4_1_w23 : w23.cell? ⟨W.heap.size + 1, 1, none⟩ = some (.slice A1 l1.length c1) := (blk_cell (HLw23.out.get 13 rfl).1 1).trans rfl
 have hxb10_0_w23 : w23.cell? ⟨w9.heap.size, 0, none⟩ = some (.int .i64 X0) := (blk_cell (HLw23.out.get 7 rfl).1 0).trans rfl
 have hxb10_1_w23 : w23.cell? ⟨w9.heap.size, 1, none⟩ = some (.slice Aw9 X1.length cw9) := (blk_cell (HLw23.out.get 7 rfl).1 1).trans rfl
 have hxb11_0_w23 : w23.cell? ⟨w11.heap.size, 0, none⟩ = some (.int .i64 X2) := (blk_cell (HLw23.out.get 5 rfl).1 0).trans rfl
 have hxb11_1_w23 : w23.cell? ⟨w11.heap.size, 1, none⟩ = some (.slice Aw11 X3.length cw11) := (blk_cell (HLw23.out.get 5 rfl).1 1).trans rfl
 go_wp2_with fail
 (with_reducible refine (laws_markIntS.calls k (fun k => low13 ≤ k ∧ k < hiw13) _ X4 ((1 + (totO X1 : Int)) + (totO X3 : Int)) _ _ W _ (HBw23.out) (HLw23.out.get 4 rfl) F11.out).mono ?_)
 rintro e w24 ⟨rfl, hm1, hm2, hm3⟩
 have HLw24 := Aside0.mk (Live.mark HLw23.out 4 rfl hm3 (seg_R (Kd.R_mono (Kd.R_tight rfl hm1) (fun k hk => (HLw23.out.get 4 rfl).1 k hk.symm)) (fun k hk _ _ => hk) (Nat.le_refl _)))
 have HBw24 := Aside0.mk hm2
 clear hm1 hm2 hm3
 have hxb3_0_w24 : w24.cell? ⟨W.heap.size, 0, none⟩ = some (.int .i64 a0) := (blk_cell (HLw24.out.get 14 rfl).1 0).trans rfl
 have hxb3_1_w24 : w24.cell? ⟨W.heap.size, 1, none⟩ = some (.slice A0 l0.length c0) := (blk_cell (HLw24.out.get 14 rfl).1 1).trans rfl
 have hxb4_0_w24 : w24.cell? ⟨W.heap.size + 1, 0, none⟩ = some (.int .i64 a1) := (blk_cell (HLw24.out.get 13 rfl).1 0).trans rfl
 have hxb4_1_w24 : w24.cell? ⟨W.heap.size + 1, 1, none⟩ = some (.slice A1 l1.length c1) := (blk_cell (HLw24.out.get 13 rfl).1 1).trans rfl
 have hxb10_0_w24 : w24.cell? ⟨w9.heap.size, 0, none⟩ = some (.int .i64 X0) := (blk_cell (HLw24.out.get 7 rfl).1 0).trans rfl
 have hxb10_1_w24 : w24.cell? ⟨w9.heap.size, 1, none⟩ = some (.slice Aw9 X1.length cw9) := (blk_cell (HLw24.out.get 7 rfl).1 1).trans rfl
 have hxb11_0_w24 : w24.cell? ⟨w11.heap.size, 0, none⟩ = some (.int .i64 X2) := (blk_cell (HLw24.out.get 5 rfl).1 0).trans rfl
 have hxb11_1_w24 : w24.cell? ⟨w11.heap.size, 1, none⟩ = some (.slice Aw11 X3.length cw11) := (blk_cell (HLw24.out.get 5 rfl).1 1).trans rfl
 go_wp2_with fail
 (with_reducible refine (laws_eqIntS.calls k _ _ X5 _ _ X5 true _ (Kd.R_reads' (HLw24.out.get 3 rfl)).2.2 (Kd.R_reads' (HLw24.out.get 3 rfl)).2.1 (Kd.R_reads' (HLw24.out.get 9 rfl)).2.2 (Kd.R_reads' (HLw24.out.get 9 rfl)).2.1 F7.out).mono ?_)
 rintro e w25 ⟨rfl, hbw25⟩
 have HLw25 := Aside0.mk (HLw24.out.below hbw25.below)
 have HBw25 := Aside0.mk (below_step (HBw24.out) (hbw25.below))
 clear hbw25
 have hxb3_0_w25 : w25.cell? ⟨W.heap.size, 0, none⟩ = some (.int .i64 a0) := (blk_cell (HLw25.out.get 14 rfl).1 0).trans rfl
 have hxb3_1_w25 : w25.cell? ⟨W.heap.size, 1, none⟩ = some (.slice A0 l0.length c0) := (blk_cell (HLw25.out.get 14 rfl).1 1).trans rfl
 have hxb4_0_w25 : w25.cell? ⟨W.heap.size + 1, 0, none⟩ = some (.int .i64 a1) := (blk_cell (HLw25.out.get 13 rfl).1 0).trans rfl
 have hxb4_1_w25 : w25.cell? ⟨W.heap.size + 1, 1, none⟩ = some (.slice A1 l1.length c1) := (blk_cell (HLw25.out.get 13 rfl).1 1).trans rfl
 have hxb10_0_w25 : w25.cell? ⟨w9.heap.size, 0, none⟩ = some (.int .i64 X0) := (blk_cell (HLw25.out.get 7 rfl).1 0).trans rfl
 have hxb10_1_w25 : w25.cell? ⟨w9.heap.size, 1, none⟩ = some (.slice Aw9 X1.length cw9) := (blk_cell (HLw25.out.get 7 rfl).1 1).trans rfl
 have hxb11_0_w25 : w25.cell? ⟨w11.heap.size, 0, none⟩ = some (.int .i64 X2) := (blk_cell (HLw25.out.get 5 rfl).1 0).trans rfl
 have hxb11_1_w25 : w25.cell? ⟨w11.heap.size, 1, none⟩ = some (.slice Aw11 X3.length cw11) := (blk_cell (HLw25.out.get 5 rfl).1 1).trans rfl
 go_wp2_with fail
 (with_reducible refine (laws_markIntS.calls k (fun k => low14 ≤ k ∧ k < hiw14) _ X5 1 _ _ W _ (HBw25.out) (HLw25.out.get 3 rfl) F12.out).mono ?_)
 rintro e w26 ⟨rfl, hm1, hm2, hm3⟩
 have HLw26 := Aside0.mk (Live.mark HLw25.out 3 rfl hm3 (seg_R (Kd.R_mono (Kd.R_tight rfl hm1) (fun k hk => (HLw25.out.get 3 rfl).1 k hk.symm)) (fun k hk _ _ => hk) (Nat.le_refl _)))
 have HBw26 := Aside0.mk hm2
 clear hm1 hm2 hm3
 have hxb3_0_w26 : w26.cell? ⟨W.heap.size, 0, none⟩ = some (.int .i64 a0) := (blk_cell (HLw26.out.get 14 rfl).1 0).trans rfl
 have hxb3_1_w26 : w26.cell? ⟨W.heap.size, 1, none⟩ = some (.slice A0 l0.length c0) := (blk_cell (HLw26.out.get 14 rfl).1 1).trans rfl
 have hxb4_0_w26 : w26.cell? ⟨W.heap.size + 1, 0, none⟩ = some (.int .i64 a1) := (blk_cell (HLw26.out.get 13 rfl).1 0).trans rfl
 have hxb4_1_w26 : w26.cell? ⟨W.heap.size + 1, 1, none⟩ = some (.slice A1 l1.length c1) := (blk_cell (HLw26.out.get 13 rfl).1 1).trans rfl
 have hxb10_0_w26 : w26.cell? ⟨w9.heap.size, 0, none⟩ = some (.int .i64 X0) := (blk_cell (HLw26.out.get 7 rfl).1 0).trans rfl
 have hxb10_1_w26 : w26.cell? ⟨w9.heap.size, 1, none⟩ = some (.slice Aw9 X1.length cw9) := (blk_cell (HLw26.out.get 7 rfl).1 1).trans rfl
 have hxb11_0_w26 : w26.cell? ⟨w11.heap.size, 0, none⟩ = some (.int .i64 X2) := (blk_cell (HLw26.out.get 5 rfl).1 0).trans rfl
 have hxb11_1_w26 : w26.cell? ⟨w11.heap.size, 1, none⟩ = some (.slice Aw11 X3.length cw11) := (blk_cell (HLw26.out.get 5 rfl).1 1).trans rfl
 go_wp2_with fail
 have r_ := (Kd.R_reads' (HLw26.out.get 3 rfl)).2
 have q_ := laws_heldIntS.calls k _ _ (asc X5.length 1) 1 (1 + (X5.length : Int)) _ (by first | exact r_.2 | (rw [asc_length]; exact r_.2)) (by first | exact r_.1 | (rw [asc_length]; exact r_.1)) F13.out
 rw [asc_length] at q_
 (with_reducible refine q_.mono ?_)
 clear q_ r_
 rintro e w27 ⟨rfl, hbw27⟩
 have HLw27 := Aside0.mk (HLw26.out.below hbw27.below)
 have HBw27 := Aside0.mk (below_step (HBw26.out) (hbw27.below))
 clear hbw27
 have hxb3_0_w27 : w27.cell? ⟨W.heap.size, 0, none⟩ = some (.int .i64 a0) := (blk_cell (HLw27.out.get 14 rfl).1 0).trans rfl
 have hxb3_1_w27 : w27.cell? ⟨W.heap.size, 1, none⟩ = some (.slice A0 l0.length c0) := (blk_cell (HLw27.out.get 14 rfl).1 1).trans rfl
 have hxb4_0_w27 : w27.cell? ⟨W.heap.size + 1, 0, none⟩ = some (.int .i64 a1) := (blk_cell (HLw27.out.get 13 rfl).1 0).trans rfl
 have hxb4_1_w27 : w27.cell? ⟨W.heap.size + 1, 1, none⟩ = some (.slice A1 l1.length c1) := (blk_cell (HLw27.out.get 13 rfl).1 1).trans rfl
 have hxb10_0_w27 : w27.cell? ⟨w9.heap.size, 0, none⟩ = some (.int .i64 X0) := (blk_cell (HLw27.out.get 7 rfl).1 0).trans rfl
 have hxb10_1_w27 : w27.cell? ⟨w9.heap.size, 1, none⟩ = some (.slice Aw9 X1.length cw9) := (blk_cell (HLw27.out.get 7 rfl).1 1).trans rfl
 have hxb11_0_w27 : w27.cell? ⟨w11.heap.size, 0, none⟩ = some (.int .i64 X2) := (blk_cell (HLw27.out.get 5 rfl).1 0).trans rfl
 have hxb11_1_w27 : w27.cell? ⟨w11.heap.size, 1, none⟩ = some (.slice Aw11 X3.length cw11) := (blk_cell (HLw27.out.get 5 rfl).1 1).trans rfl
 go_wp2_with fail
 go_region_held3 (fun w' => w'.cell? ⟨W.heap.size, 0, none⟩ = some (.int .i64 a0) ∧ w'.cell? ⟨W.heap.size, 1, none⟩ = some (.slice A0 l0.length c0) ∧ w'.cell? ⟨W.heap.size + 1, 0, none⟩ = some (.int .i64 a1) ∧ w'.cell? ⟨W.heap.size + 1, 1, none⟩ = some (.slice A1 l1.length c1) ∧ w'.cell? ⟨w9.heap.size, 0, none⟩ = some (.int .i64 X0) ∧ w'.cell? ⟨w9.heap.size, 1, none⟩ = some (.slice Aw9 X1.length cw9) ∧ w'.cell? ⟨w11.heap.size, 0, none⟩ = some (.int .i64 X2) ∧ w'.cell? ⟨w11.heap.size, 1, none⟩ = some (.slice Aw11 X3.length cw11)) (first | (simp [*]; done) | go_keep) (first | (go_at_call 17; (with_reducible refine (laws_toAlgebra.calls k a0 _ _ l0 X0 X1 _ (Kd.C_below HR0.out (below_drew1 (HBw27.out))) HC0.out F2.out).mono ?_); rintro e w28 ⟨vw28_0, rfl, how28_0, hbw28⟩; obtain ⟨Aw28, cw28, rfl⟩ := Kd.S_slice how28_0; obtain ⟨low28, hiw28, hlw28⟩ := Live.make_S (Live.drew HLw27.out) hbw28 how28_0 (below_size (below_drew1 (HBw27.out))); have HLw28 := Aside0.mk hlw28; clear hlw28 how28_0; have HBw28 := Aside0.mk (below_step (below_drew1 (HBw27.out)) (hbw28)); clear hbw28; have hxb3_0_w28 : w28.cell? ⟨W.heap.size, 0, none⟩ = some (.int .i64 a0) := (blk_cell (HLw28.out.get 15 rfl).1 0).trans rfl; have hxb3_1_w28 : w28.cell? ⟨W.heap.size, 1, none⟩ = some (.slice A0 l0.length c0) := (blk_cell (HLw28.out.get 15 rfl).1 1).trans rfl; have hxb4_0_w28 : w28.cell? ⟨W.heap.size + 1, 0, none⟩ = some (.int .i64 a1) := (blk_cell (HLw28.out.get 14 rfl).1 0).trans rfl; have hxb4_1_w28 : w28.cell? ⟨W.heap.size + 1, 1, none⟩ = some (.slice A1 l1.length c1) := (blk_cell (HLw28.out.get 14 rfl).1 1).trans rfl; have hxb10_0_w28 : w28.cell? ⟨w9.heap.size, 0, none⟩ = some (.int .i64 X0) := (blk_cell (HLw28.out.get 8 rfl).1 0).trans rfl; have hxb10_1_w28 : w28.cell? ⟨w9.heap.size, 1, none⟩ = some (.slice Aw9 X1.length cw9) := (blk_cell (HLw28.out.get 8 rfl).1 1).trans rfl; have hxb11_0_w28 : w28.cell? ⟨w11.heap.size, 0, none⟩ = some (.int .i64 X2) := (blk_cell (HLw28.out.get 6 rfl).1 0).trans rfl; have hxb11_1_w28 : w28.cell? ⟨w11.heap.size, 1, none⟩ = some (.slice Aw11 X3.length cw11) := (blk_cell (HLw28.out.get 6 rfl).1 1).trans rfl) | (go_at_call 17; (with_reducible refine (laws_toAlgebra.calls k a1 _ _ l1 X2 X3 _ (Kd.C_below HR1.out (HBw28.out)) HC1.out F3.out).mono ?_); rintro e w29 ⟨vw29_0, rfl, how29_0, hbw29⟩; obtain ⟨Aw29, cw29, rfl⟩ := Kd.S_slice how29_0; obtain ⟨low29, hiw29, hlw29⟩ := Live.make_S HLw28.out hbw29 how29_0 (below_size (HBw28.out)); have HLw29 := Aside0.mk hlw29; clear hlw29 how29_0; have HBw29 := Aside0.mk (below_step (HBw28.out) (hbw29)); clear hbw29; have hxb3_0_w29 : w29.cell? ⟨W.heap.size, 0, none⟩ = some (.int .i64 a0) := (blk_cell (HLw29.out.get 16 rfl).1 0).trans rfl; have hxb3_1_w29 : w29.cell? ⟨W.heap.size, 1, none⟩ = some (.slice A0 l0.length c0) := (blk_cell (HLw29.out.get 16 rfl).1 1).trans rfl; have hxb4_0_w29 : w29.cell? ⟨W.heap.size + 1, 0, none⟩ = some (.int .i64 a1) := (blk_cell (HLw29.out.get 15 rfl).1 0).trans rfl; have hxb4_1_w29 : w29.cell? ⟨W.heap.size + 1, 1, none⟩ = some (.slice A1 l1.length c1) := (blk_cell (HLw29.out.get 15 rfl).1 1).trans rfl; have hxb10_0_w29 : w29.cell? ⟨w9.heap.size, 0, none⟩ = some (.int .i64 X0) := (blk_cell (HLw29.out.get 9 rfl).1 0).trans rfl; have hxb10_1_w29 : w29.cell? ⟨w9.heap.size, 1, none⟩ = some (.slice Aw9 X1.length cw9) := (blk_cell (HLw29.out.get 9 rfl).1 1).trans rfl; have hxb11_0_w29 : w29.cell? ⟨w11.heap.size, 0, none⟩ = some (.int .i64 X2) := (blk_cell (HLw29.out.get 7 rfl).1 0).trans rfl; have hxb11_1_w29 : w29.cell? ⟨w11.heap.size, 1, none⟩ = some (.slice Aw11 X3.length cw11) := (blk_cell (HLw29.out.get 7 rfl).1 1).trans rfl) | (go_at_call 18; (with_reducible refine (laws_toIntS.calls k _ _ l2 X4 _ (Kd.C_below HR2.out (HBw29.out)) HC2.out F4.out).mono ?_); rintro e w30 ⟨vw30_0, rfl, how30_0, hbw30⟩; obtain ⟨Aw30, cw30, rfl⟩ := Kd.R_slice how30_0; obtain ⟨low30, hiw30, hlw30⟩ := Live.make_R HLw29.out hbw30 how30_0 (below_size (HBw29.out)); have HLw30 := Aside0.mk hlw30; clear hlw30 how30_0; have HBw30 := Aside0.mk (below_step (HBw29.out) (hbw30)); clear hbw30; have hxb3_0_w30 : w30.cell? ⟨W.heap.size, 0, none⟩ = some (.int .i64 a0) := (blk_cell (HLw30.out.get 17 rfl).1 0).trans rfl; have hxb3_1_w30 : w30.cell? ⟨W.heap.size, 1, none⟩ = some (.slice A0 l0.length c0) := (blk_cell (HLw30.out.get 17 rfl).1 1).trans rfl; have hxb4_0_w30 : w30.cell? ⟨W.heap.size + 1, 0, none⟩ = some (.int .i64 a1) := (blk_cell (HLw30.out.get 16 rfl).1 0).trans rfl; have hxb4_1_w30 : w30.cell? ⟨W.heap.size + 1, 1, none⟩ = some (.slice A1 l1.length c1) := (blk_cell (HLw30.out.get 16 rfl).1 1).trans rfl; have hxb10_0_w30 : w30.cell? ⟨w9.heap.size, 0, none⟩ = some (.int .i64 X0) := (blk_cell (HLw30.out.get 10 rfl).1 0).trans rfl; have hxb10_1_w30 : w30.cell? ⟨w9.heap.size, 1, none⟩ = some (.slice Aw9 X1.length cw9) := (blk_cell (HLw30.out.get 10 rfl).1 1).trans rfl; have hxb11_0_w30 : w30.cell? ⟨w11.heap.size, 0, none⟩ = some (.int .i64 X2) := (blk_cell (HLw30.out.get 8 rfl).1 0).trans rfl; have hxb11_1_w30 : w30.cell? ⟨w11.heap.size, 1, none⟩ = some (.slice Aw11 X3.length cw11) := (blk_cell (HLw30.out.get 8 rfl).1 1).trans rfl) | (go_at_call 39; (with_reducible refine (impl_ImageOf.calls k X0 _ _ X1 X2 _ _ X3 _ _ X4 X5 X6 _ (Kd.S_reads' (HLw30.out.get 2 rfl)).2.2 (Kd.S_reads' (HLw30.out.get 2 rfl)).2.1 (Kd.S_reads' (HLw30.out.get 1 rfl)).2.2 (Kd.S_reads' (HLw30.out.get 1 rfl)).2.1 (Kd.R_reads' (HLw30.out.get 0 rfl)).2.2 (Kd.R_reads' (HLw30.out.get 0 rfl)).2.1 F6.out).mono ?_); rintro e w31 ⟨vw31_0, rfl, how31_0, hbw31⟩; obtain ⟨Aw31, cw31, rfl⟩ := Kd.R_slice how31_0; obtain ⟨low31, hiw31, hlw31⟩ := Live.make_R HLw30.out hbw31 how31_0 (below_size (HBw30.out)); have HLw31 := Aside0.mk hlw31; clear hlw31 how31_0; have HBw31 := Aside0.mk (below_step (HBw30.out) (hbw31)); clear hbw31; have hxb3_0_w31 : w31.cell? ⟨W.heap.size, 0, none⟩ = some (.int .i64 a0) := (blk_cell (HLw31.out.get 18 rfl).1 0).trans rfl; have hxb3_1_w31 : w31.cell? ⟨W.heap.size, 1, none⟩ = some (.slice A0 l0.length c0) := (blk_cell (HLw31.out.get 18 rfl).1 1).trans rfl; have hxb4_0_w31 : w31.cell? ⟨W.heap.size + 1, 0, none⟩ = some (.int .i64 a1) := (blk_cell (HLw31.out.get 17 rfl).1 0).trans rfl; have hxb4_1_w31 : w31.cell? ⟨W.heap.size + 1, 1, none⟩ = some (.slice A1 l1.length c1) := (blk_cell (HLw31.out.get 17 rfl).1 1).trans rfl; have hxb10_0_w31 : w31.cell? ⟨w9.heap.size, 0, none⟩ = some (.int .i64 X0) := (blk_cell (HLw31.out.get 11 rfl).1 0).trans rfl; have hxb10_1_w31 : w31.cell? ⟨w9.heap.size, 1, none⟩ = some (.slice Aw9 X1.length cw9) := (blk_cell (HLw31.out.get 11 rfl).1 1).trans rfl; have hxb11_0_w31 : w31.cell? ⟨w11.heap.size, 0, none⟩ = some (.int .i64 X2) := (blk_cell (HLw31.out.get 9 rfl).1 0).trans rfl; have hxb11_1_w31 : w31.cell? ⟨w11.heap.size, 1, none⟩ = some (.slice Aw11 X3.length cw11) := (blk_cell (HLw31.out.get 9 rfl).1 1).trans rfl))
 go_wp2_with fail
 (with_reducible refine (laws_eqIntS.calls k _ _ X5 _ _ X5 true _ (Kd.R_reads' (HLw31.out.get 0 rfl)).2.2 (Kd.R_reads' (HLw31.out.get 0 rfl)).2.1 (Kd.R_reads' (HLw31.out.get 13 rfl)).2.2 (Kd.R_reads' (HLw31.out.get 13 rfl)).2.1 F7.out).mono ?_)
 rintro e w32 ⟨rfl, hbw32⟩
 have HLw32 := Aside0.mk (HLw31.out.below hbw32.below)
 have HBw32 := Aside0.mk (below_step (HBw31.out) (hbw32.below))
 clear hbw32
 have hxb3_0_w32 : w32.cell? ⟨W.heap.size, 0, none⟩ = some (.int .i64 a0) := (blk_cell (HLw32.out.get 18 rfl).1 0).trans rfl
 have hxb3_1_w32 : w32.cell? ⟨W.heap.size, 1, none⟩ = some (.slice A0 l0.length c0) := (blk_cell (HLw32.out.get 18 rfl).1 1).trans rfl
 have hxb4_0_w32 : w32.cell? ⟨W.heap.size + 1, 0, none⟩ = some (.int .i64 a1) := (blk_cell (HLw32.out.get 17 rfl).1 0).trans rfl
 have hxb4_1_w32 : w32.cell? ⟨W.heap.size + 1, 1, none⟩ = some (.slice A1 l1.length c1) := (blk_cell (HLw32.out.get 17 rfl).1 1).trans rfl
 have hxb10_0_w32 : w32.cell? ⟨w9.heap.size, 0, none⟩ = some (.int .i64 X0) := (blk_cell (HLw32.out.get 11 rfl).1 0).trans rfl
 have hxb10_1_w32 : w32.cell? ⟨w9.heap.size, 1, none⟩ = some (.slice Aw9 X1.length cw9) := (blk_cell (HLw32.out.get 11 rfl).1 1).trans rfl
 have hxb11_0_w32 : w32.cell? ⟨w11.heap.size, 0, none⟩ = some (.int .i64 X2) := (blk_cell (HLw32.out.get 9 rfl).1 0).trans rfl
 have hxb11_1_w32 : w32.cell? ⟨w11.heap.size, 1, none⟩ = some (.slice Aw11 X3.length cw11) := (blk_cell (HLw32.out.get 9 rfl).1 1).trans rfl
 go_wp2_with fail
 have r_ := (Kd.R_reads' (HLw32.out.get 7 rfl)).2
 have q_ := laws_heldIntS.calls k _ _ (asc X5.length 1) 1 (1 + (X5.length : Int)) _ (by first | exact r_.2 | (rw [asc_length]; exact r_.2)) (by first | exact r_.1 | (rw [asc_length]; exact r_.1)) F13.out
 rw [asc_length] at q_
 (with_reducible refine q_.mono ?_)
 clear q_ r_
 rintro e w33 ⟨rfl, hbw33⟩
 have HLw33 := Aside0.mk (HLw32.out.below hbw33.below)
 have HBw33 := Aside0.mk (below_step (HBw32.out) (hbw33.below))
 clear hbw33
 have hxb3_0_w33 : w33.cell? ⟨W.heap.size, 0, none⟩ = some (.int .i64 a0) := (blk_cell (HLw33.out.get 18 rfl).1 0).trans rfl
 have hxb3_1_w33 : w33.cell? ⟨W.heap.size, 1, none⟩ = some (.slice A0 l0.length c0) := (blk_cell (HLw33.out.get 18 rfl).1 1).trans rfl
 have hxb4_0_w33 : w33.cell? ⟨W.heap.size + 1, 0, none⟩ = some (.int .i64 a1) := (blk_cell (HLw33.out.get 17 rfl).1 0).trans rfl
 have hxb4_1_w33 : w33.cell? ⟨W.heap.size + 1, 1, none⟩ = some (.slice A1 l1.length c1) := (blk_cell (HLw33.out.get 17 rfl).1 1).trans rfl
 have hxb10_0_w33 : w33.cell? ⟨w9.heap.size, 0, none⟩ = some (.int .i64 X0) := (blk_cell (HLw33.out.get 11 rfl).1 0).trans rfl
 have hxb10_1_w33 : w33.cell? ⟨w9.heap.size, 1, none⟩ = some (.slice Aw9 X1.length cw9) := (blk_cell (HLw33.out.get 11 rfl).1 1).trans rfl
 have hxb11_0_w33 : w33.cell? ⟨w11.heap.size, 0, none⟩ = some (.int .i64 X2) := (blk_cell (HLw33.out.get 9 rfl).1 0).trans rfl
 have hxb11_1_w33 : w33.cell? ⟨w11.heap.size, 1, none⟩ = some (.slice Aw11 X3.length cw11) := (blk_cell (HLw33.out.get 9 rfl).1 1).trans rfl
 go_wp2
 go_ret
 exact ⟨rfl, HBw33.out⟩
end Go.Proofs.Ytnnbgfphinemfaa
