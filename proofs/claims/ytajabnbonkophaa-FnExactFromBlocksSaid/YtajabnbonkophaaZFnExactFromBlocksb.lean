/- Part 2 of the proof of the law FnExactFromBlocks: functions and lists that say what the Go code computes, and that it does; no condition beside those that each theorem states. -/
import Derived.Test.YtajabnbonkophaaZFnExactFromBlocksa
import Derived.Test.YtajabnbonkophaaZFnExactFromBlocksWMore
import Derived.Test.YtajabnbonkophaaZFnExactFromBlocksWKept
import Derived.Test.YtajabnbonkophaaZFnExactFromBlocksWApart
import Derived.Test.YtajabnbonkophaaZFnExactFromBlocksWFoot
import Derived.Test.YtajabnbonkophaaZFnExactFromBlocksWSized
import Derived.Deep.RegionHeld3
namespace Go.Proofs.Ytajabnbonkophaa.Live
open Go.RowKit Go.Proofs.YtajabnbonkophaaW.PrintWords Go.Proofs.YtajabnbonkophaaW.PrintLast
set_option linter.unusedVariables false
structure Part where
  lo : Nat
  hi : Nat
  P : World → Prop
def Seg (w : World) (x : Part) : Prop := ∀ w' : World, (∀ k, x.lo ≤ k → k < x.hi → w'.heap[k]? = w.heap[k]?) → x.P w'
def Live (w : World) (L : List Part) : Prop := (∀ x ∈ L, x.lo ≤ x.hi ∧ x.hi ≤ w.heap.size ∧ Seg w x) ∧ L.Pairwise (fun new old => old.hi ≤ new.lo)
theorem Live.nil (w : World) : Live w [] := ⟨fun x hx => by simp at hx, List.Pairwise.nil⟩
theorem Live.get {w : World} {L : List Part} (h : Live w L) (i : Nat) {x : Part} (hi : L[i]? = some x) : x.P w :=
  (h.1 x (List.mem_of_getElem? hi)).2.2 w (fun _ _ _ => rfl)
theorem Seg.kept {w w' : World} {x : Part} {S : Nat → Prop} (h : Seg w x) (hk : Kept w w' S) (hh : x.hi ≤ w.heap.size) (hs : ∀ k, x.lo ≤ k → k < x.hi → ¬ S k) : Seg w' x :=
  fun w2 h2 => h w2 (fun k h3 h4 => (h2 k h3 h4).trans (hk.2 k (by omega) (hs k h3 h4)))
theorem Live.kept {w w' : World} {L : List Part} {S : Nat → Prop} (h : Live w L) (hk : Kept w w' S) (hs : ∀ x ∈ L, ∀ k, x.lo ≤ k → k < x.hi → ¬ S k) : Live w' L :=
  ⟨fun x hx => ⟨(h.1 x hx).1, Nat.le_trans (h.1 x hx).2.1 hk.1, (h.1 x hx).2.2.kept hk (h.1 x hx).2.1 (hs x hx)⟩, h.2⟩
theorem Live.below {w w' : World} {L : List Part} (h : Live w L) (hb : Below w.heap.size w w') : Live w' L :=
  h.kept (Kept.of_below hb (fun _ => False)) (fun _ _ _ _ _ hf => hf)
theorem Live.drew {w : World} {L : List Part} (h : Live w L) : Live w.drew L := h
theorem Live.make {w w' : World} {L : List Part} (h : Live w L) (hb : Below w.heap.size w w') {P : World → Prop} (hP : Seg w' ⟨w.heap.size, w'.heap.size, P⟩) : Live w' (⟨w.heap.size, w'.heap.size, P⟩ :: L) := by
  have h1 := h.below hb
  refine ⟨fun x hx => ?_, List.Pairwise.cons (fun x hx => (h.1 x hx).2.1) h1.2⟩
  rcases List.mem_cons.1 hx with rfl | hx
  · exact ⟨hb.size, Nat.le_refl _, hP⟩
  · exact h1.1 x hx
theorem pairwise_set {L : List Part} (h : L.Pairwise (fun new old => old.hi ≤ new.lo)) (i : Nat) {x y : Part} (hi : L[i]? = some x) (h1 : y.lo = x.lo) (h2 : y.hi = x.hi) : (L.set i y).Pairwise (fun new old => old.hi ≤ new.lo) := by
  rw [List.pairwise_iff_getElem] at h ⊢
  obtain ⟨hil, hx⟩ := List.getElem?_eq_some_iff.1 hi
  have key : ∀ (j : Nat) (hj : j < (L.set i y).length), ((L.set i y)[j]).lo = (L[j]'(by simpa using hj)).lo ∧ ((L.set i y)[j]).hi = (L[j]'(by simpa using hj)).hi := by
    intro j hj
    rw [List.getElem_set]
    split
    · rename_i e
      subst e
      rw [h1, h2, ← hx]
      exact ⟨rfl, rfl⟩
    · exact ⟨rfl, rfl⟩
  intro a b ha hb hab
  rw [(key a ha).1, (key b hb).2]
  exact h a b (by simpa using ha) (by simpa using hb) hab
theorem Live.mark {w w' : World} {L : List Part} (h : Live w L) (i : Nat) {x : Part} (hi : L[i]? = some x) (hk : Kept w w' (fun k => x.lo ≤ k ∧ k < x.hi)) {P' : World → Prop} (hP : Seg w' ⟨x.lo, x.hi, P'⟩) : Live w' (L.set i ⟨x.lo, x.hi, P'⟩) := by
  have hp := h.2
  rw [List.pairwise_iff_getElem] at hp
  obtain ⟨hil, hx⟩ := List.getElem?_eq_some_iff.1 hi
  refine ⟨fun y hy => ?_, pairwise_set h.2 i hi rfl rfl⟩
  obtain ⟨j, hj⟩ := List.getElem?_of_mem hy
  rw [List.getElem?_set] at hj
  by_cases e : i = j
  · subst e
    rw [if_pos rfl, if_pos hil] at hj
    injection hj with hj
    subst hj
    have hm := h.1 x (List.mem_of_getElem? hi)
    exact ⟨hm.1, Nat.le_trans hm.2.1 hk.1, hP⟩
  · rw [if_neg e] at hj
    obtain ⟨hjl, hjx⟩ := List.getElem?_eq_some_iff.1 hj
    have hm := h.1 y (List.mem_of_getElem? hj)
    refine ⟨hm.1, Nat.le_trans hm.2.1 hk.1, hm.2.2.kept hk hm.2.1 (fun k h3 h4 h5 => ?_)⟩
    rcases Nat.lt_or_ge i j with h6 | h6
    · have := hp i j hil hjl h6
      rw [hx, hjx] at this
      omega
    · have := hp j i hjl hil (by omega)
      rw [hx, hjx] at this
      omega
theorem Live.make_S {α : Type} {d : Kd α} {e base : Nat} {ok : Nat → Prop} {v : Value} {xs : List α} {w w' : World} {L : List Part} (h : Live w L) (hb : Below w.heap.size w w') (ho : Kd.S d e w' w.heap.size ok v xs) (hbase : base ≤ w.heap.size) :
    ∃ lo hi, Live w' (⟨lo, hi, fun w => Kd.S d e w base (fun k => lo ≤ k ∧ k < hi) v xs⟩ :: L) :=
  ⟨_, _, h.make hb (fun w2 hw => Kd.S_lower (Kd.S_move (Kd.S_mono (Kd.S_bound ho) (fun k hk => ⟨hk.2.1, hk.2.2.1⟩)) (fun k hk => hw k hk.1 hk.2)) hbase)⟩
theorem Live.make_R {α : Type} {d : Kd α} {e base : Nat} {ok : Nat → Prop} {v : Value} {xs : List α} {w w' : World} {L : List Part} (h : Live w L) (hb : Below w.heap.size w w') (ho : d.R e w' w.heap.size ok v xs) (hbase : base ≤ w.heap.size) :
    ∃ lo hi, Live w' (⟨lo, hi, fun w => d.R e w base (fun k => lo ≤ k ∧ k < hi) v xs⟩ :: L) :=
  ⟨_, _, h.make hb (fun w2 hw => Kd.R_lower (Kd.R_move (Kd.R_mono (Kd.R_bound ho) (fun k hk => ⟨hk.2.1, hk.2.2.1⟩)) (fun k hk => hw k hk.1 hk.2)) hbase)⟩
section
variable {α : Type} {d : Kd α} {e base lo hi : Nat} {w : World} {ok : Nat → Prop} {v : Value} {xs : List α}
theorem seg_R {base' : Nat} (h : d.R e w base ok v xs) (hok : ∀ k, ok k → base ≤ k → k < w.heap.size → lo ≤ k ∧ k < hi) (hb : base' ≤ base) : Seg w ⟨lo, hi, fun w => d.R e w base' (fun k => lo ≤ k ∧ k < hi) v xs⟩ := fun w' hw =>
  Kd.R_lower (Kd.R_move (Kd.R_mono (Kd.R_bound h) (fun k hk => hok k hk.1 hk.2.1 hk.2.2.1)) (fun k hk => hw k hk.1 hk.2)) hb
theorem seg_S {base' : Nat} (h : Kd.S d e w base ok v xs) (hok : ∀ k, ok k → base ≤ k → k < w.heap.size → lo ≤ k ∧ k < hi) (hb : base' ≤ base) : Seg w ⟨lo, hi, fun w => Kd.S d e w base' (fun k => lo ≤ k ∧ k < hi) v xs⟩ := fun w' hw =>
  Kd.S_lower (Kd.S_move (Kd.S_mono (Kd.S_bound h) (fun k hk => hok k hk.1 hk.2.1 hk.2.2.1)) (fun k hk => hw k hk.1 hk.2)) hb
end
end Go.Proofs.Ytajabnbonkophaa.Live

namespace Go.Proofs.Ytajabnbonkophaa
open Go.RowKit Go.Proofs.YtajabnbonkophaaW.PrintWords Go.Proofs.YtajabnbonkophaaW.PrintLast Go.Proofs.YtajabnbonkophaaW.PrintMore Go.Proofs.Ytajabnbonkophaa.Live Go.Proofs.Ytajabnbonkophaa.Q
def Stmt.FnExactFromBlocks : Prop := ∀ (a0 : Int) (l1 : List (List (Int))), (Lit.int .i64 a0).wf = true → l1.length ≤ maxLen → (∀ x ∈ l1, x.length ≤ maxLen ∧ ∀ y_x ∈ x, (Lit.int .i64 y_x).wf = true) → ∃ k : Nat, ∃ t0 : Int, laws_szIntSS.f k l1 1048576 = some t0 ∧ (0 ≤ t0 → ∃ (X0 : List (List Int)) (X1 : List Int) (X2 : Bool), laws_toIntSS.f k l1 = some X0 ∧ spec_FromBlocks.f k a0 X0 = some (X1, X2) ∧ impl_FromBlocks.f k a0 X0 = some (X1, X2) ∧ laws_eqIntS.f k X1 X1 = some true ∧ laws_eqIntSS.f k X0 X0 = some true ∧ laws_markIntS.f k X1 1 = some (((1 + (X1.length : Int))), (asc X1.length 1)) ∧ laws_heldIntS.f k (asc X1.length 1) 1 = some (1 + (X1.length : Int)) ∧ (1 + (tot X0 : Int)) ≤ 4611686018427387904)
end Go.Proofs.Ytajabnbonkophaa

namespace Go.Proofs.Ytajabnbonkophaa
open Go.ChangeShapes Go.WideShapes
end Go.Proofs.Ytajabnbonkophaa
namespace Go.Proofs.Ytajabnbonkophaa.Pure
open Go.RowKit Go.Proofs.Ytajabnbonkophaa.Q Go.Proofs.YtajabnbonkophaaW.PrintWords Go.Proofs.YtajabnbonkophaaW.PrintLast
set_option linter.unusedVariables false
set_option linter.unusedSimpArgs false
theorem Ev.pos {α : Type} {c : Prop} [Decidable c] {f g : Nat → Option α} {r : α} (h : c) (hf : Ev f r) : Ev (fun k => if c then f k else g k) r := by
  simpa only [if_pos h] using hf
theorem Ev.neg {α : Type} {c : Prop} [Decidable c] {f g : Nat → Option α} {r : α} (h : ¬ c) (hg : Ev g r) : Ev (fun k => if c then f k else g k) r := by
  simpa only [if_neg h] using hg
theorem Ev.ite {α : Type} {c : Prop} [Decidable c] {f g : Nat → Option α} {r : α} (h : c → Ev f r) (h' : ¬ c → Ev g r) : Ev (fun k => if c then f k else g k) r := by
  by_cases hc : c
  · exact Ev.pos hc (h hc)
  · exact Ev.neg hc (h' hc)
theorem Ev.bind1 {α β : Type} {x : α} {f : Nat → α → Option β} {r : β} (k : Ev (fun n => f n x) r) : Ev (fun n => (some x).bind (f n)) r := k
theorem _root_.Go.Proofs.YtajabnbonkophaaW.PrintWords.Ev.to {α : Type} {g : Nat → Option α} {r s : α} (h : Ev g r) (e : r = s) : Ev g s := e ▸ h
theorem w64 {x : Int} (h1 : -9223372036854775808 ≤ x) (h2 : x ≤ 9223372036854775807) : wrap64 x = x := by unfold wrap64; omega
theorem w64s {i n : Nat} (h : i < n) (hn : n ≤ 9223372036854775807) : wrap64 ((i : Int) + 1) = ((i + 1 : Nat) : Int) := by unfold wrap64; omega
def gd (l : List Int) (i : Nat) : Int := l.getD i 0
theorem rdn (xs : List Int) (i : Nat) : rd xs (i : Int) = gd xs i := by simp [rd, gd]
theorem gd_lt {xs : List Int} {i : Nat} (h : i < xs.length) : gd xs i = xs[i] := by simp [gd, List.getD, h]
theorem set_at {x : List Int} {i : Nat} (v : Int) (hi : i < x.length) : gd (x.set i v) i = v := by simp [gd, List.getD, hi]
theorem set_ne {x : List Int} {i j : Nat} (v : Int) (h : i ≠ j) : gd (x.set i v) j = gd x j := by simp only [gd, List.getD]; rw [List.getElem?_set_ne h]
theorem ext_gd {a b : List Int} (h : a.length = b.length) (e : ∀ i, i < a.length → gd a i = gd b i) : a = b := by
  apply List.ext_getElem h
  intro i h1 h2
  have := e i h1
  rwa [gd_lt h1, gd_lt h2] at this
theorem take_snoc (l : List Int) {i : Nat} (h : i < l.length) : l.take i ++ [gd l i] = l.take (i + 1) := by
  rw [gd_lt h, List.take_append_getElem]
theorem _root_.Go.Proofs.YtajabnbonkophaaW.PrintWords.Ev.and {α β : Type} {g : Nat → Option α} {f : Nat → Option β} {r : α} {s : β} (h : Ev g r) (h' : Ev f s) : ∃ K, ∀ k, K ≤ k → g k = some r ∧ f k = some s := by
  obtain ⟨K, h⟩ := h
  obtain ⟨K', h'⟩ := h'
  exact ⟨max K K', fun k hk => ⟨h k (by omega), h' k (by omega)⟩⟩
def Evs (P : Nat → Prop) : Prop := ∃ K, ∀ k, K ≤ k → P k
theorem Evs.of {α : Type} {g : Nat → Option α} {r : α} (h : Ev g r) : Evs (fun k => g k = some r) := h
theorem Evs.and {P Q : Nat → Prop} (h : Evs P) (h' : Evs Q) : Evs (fun k => P k ∧ Q k) := by
  obtain ⟨K, h⟩ := h
  obtain ⟨K', h'⟩ := h'
  exact ⟨max K K', fun k hk => ⟨h k (by omega), h' k (by omega)⟩⟩
theorem Evs.true {P : Prop} (h : P) : Evs (fun _ => P) := ⟨0, fun _ _ => h⟩
theorem Evs.ex {P : Nat → Prop} (h : Evs P) : ∃ k, P k := by
  obtain ⟨K, h⟩ := h
  exact ⟨K, h K (Nat.le_refl _)⟩
theorem drop_cons {α : Type} (l : List α) (z : α) {i : Nat} (h : i < l.length) : l.drop i = l.getD i z :: l.drop (i + 1) := by
  rw [List.drop_eq_getElem_cons h]
  simp [List.getD, h]
theorem all_loop {α : Type} (l : List α) (z : α) (p : α → Bool) (L : Nat → Int → Option Bool) (hend : Ev (fun k => L k (l.length : Int)) true)
    (hT : ∀ (i : Nat) (r : Bool), i < l.length → p (l.getD i z) = true → Ev (fun k => L k ((i + 1 : Nat) : Int)) r → Ev (fun k => L k (i : Int)) r)
    (hF : ∀ i : Nat, i < l.length → p (l.getD i z) = false → Ev (fun k => L k (i : Int)) false) : ∀ (d i : Nat), i + d = l.length → Ev (fun k => L k (i : Int)) ((l.drop i).all p) := by
  intro d
  induction d with
  | zero =>
    intro i hi
    have : i = l.length := by omega
    subst this
    simpa using hend
  | succ d ih =>
    intro i hi
    rw [drop_cons l z (by omega), List.all_cons]
    cases hp : p (l.getD i z) with
    | true => simpa using hT i _ (by omega) hp (ih (i + 1) (by omega))
    | false => simpa using hF i (by omega) hp
theorem set_loop {α β γ : Type} (l : List α) (z : α) (f : α → β) (L : Nat → List β → Int → Option γ) (fin : γ) (hend : Ev (fun k => L k (l.map f) (l.length : Int)) fin)
    (hstep : ∀ (i : Nat) (out : List β), i < l.length → out.length = l.length → Ev (fun k => L k (out.set i (f (l.getD i z))) ((i + 1 : Nat) : Int)) fin → Ev (fun k => L k out (i : Int)) fin) :
    ∀ (d i : Nat) (out : List β), i + d = l.length → out.length = l.length → (∀ j, j < i → out[j]? = (l.map f)[j]?) → Ev (fun k => L k out (i : Int)) fin := by
  intro d
  induction d with
  | zero =>
    intro i out hi ho h
    have : i = l.length := by omega
    subst this
    have : out = l.map f := by
      apply List.ext_getElem?
      intro j
      rcases Nat.lt_or_ge j l.length with h1 | h1
      · exact h j h1
      · rw [List.getElem?_eq_none (by omega), List.getElem?_eq_none (by simpa using h1)]
    rw [this]
    exact hend
  | succ d ih =>
    intro i out hi ho h
    refine hstep i out (by omega) ho (ih (i + 1) _ (by omega) (by simpa using ho) (fun j hj => ?_))
    rw [List.getElem?_set]
    by_cases e : i = j
    · subst e
      rw [if_pos rfl, if_pos (by omega)]
      simp [List.getD, show i < l.length by omega]
    · rw [if_neg e]
      exact h j (by omega)
def sizeB (n : Int) : Bool := decide (1 ≤ n ∧ n ≤ 8)
theorem impl_isSize_eq (n : Int) : impl_isSize.f n = some (sizeB n) := by
  unfold impl_isSize.f sizeB
  split
  · congr 1; simp; omega
  · congr 1; simp; omega
theorem spec_l1In_eq (a b c : Int) : spec_l1In.f a b c = some (decide (b ≤ a ∧ a ≤ c)) := by
  unfold spec_l1In.f
  split
  · congr 1; simp; omega
  · congr 1; simp; omega
theorem spec_l6Size_eq (n : Int) : spec_l6Size.f n = some (sizeB n) := by
  unfold spec_l6Size.f
  rw [spec_l1In_eq]
  rfl
theorem asc_at {n i : Nat} (a : Int) (h : i < n) : gd (asc n a) i = a + i := by simp [asc, gd, List.getD, h]
theorem toIntS_loop (l : List Int) (hl : l.length ≤ 35184372088832) : ∀ (d i : Nat) (x : List Int), i + d = l.length → x.length = l.length → (∀ j, j < i → gd x j = gd l j) → Ev (fun k => laws_toIntS.l0 k l x (i : Int)) l := by
  intro d
  induction d with
  | zero =>
    intro i x hi hx h
    refine Ev.step (fun _ => laws_toIntS.l0.eq_2 ..) ?_
    refine Ev.neg (by omega) ?_
    have : x = l := by
      apply List.ext_getElem hx
      intro j h1 h2
      have := h j (by omega)
      simpa [gd, List.getD, h1, h2] using this
    subst this
    exact Ev.now _
  | succ d ih =>
    intro i x hi hx h
    refine Ev.step (fun _ => laws_toIntS.l0.eq_2 ..) ?_
    refine Ev.pos (by omega) ?_
    refine Ev.pos (by omega) ?_
    refine Ev.pos (by omega) ?_
    rw [w64s (n := l.length) (by omega) (by omega), rdn, Int.toNat_natCast]
    refine ih (i + 1) _ (by omega) (by simpa using hx) ?_
    intro j hj
    by_cases e : j = i
    · subst e
      simp [gd, List.getD, show j < x.length by omega]
    · have := h j (by omega)
      simp only [gd, List.getD] at this ⊢
      rw [List.getElem?_set_ne (by omega)]
      exact this
theorem toIntS_ev (l : List Int) (hl : l.length ≤ 35184372088832) : Ev (fun k => laws_toIntS.f k l) l := by
  unfold laws_toIntS.f
  refine Ev.pos (by omega) ?_
  refine Ev.pos (by omega) ?_
  exact toIntS_loop l hl l.length 0 _ (by omega) (by simp) (fun j hj => by omega)
theorem eqIntS_loop (a b : List Int) (hb : b.length = a.length) (hl : a.length ≤ 35184372088832) : ∀ (d i : Nat), i + d = a.length → Ev (fun k => laws_eqIntS.l0 k a b (i : Int)) (decide (a.drop i = b.drop i)) := by
  intro d
  induction d with
  | zero =>
    intro i hi
    refine Ev.step (fun _ => laws_eqIntS.l0.eq_2 ..) ?_
    refine Ev.neg (by omega) ?_
    refine (Ev.now _).to ?_
    rw [List.drop_of_length_le (by omega), List.drop_of_length_le (by omega)]
    simp
  | succ d ih =>
    intro i hi
    refine Ev.step (fun _ => laws_eqIntS.l0.eq_2 ..) ?_
    refine Ev.pos (by omega) ?_
    refine Ev.pos (by omega) ?_
    refine Ev.pos (by omega) ?_
    rw [w64s (n := a.length) (by omega) (by omega), rdn, rdn]
    have e1 : a.drop i = gd a i :: a.drop (i + 1) := by rw [gd_lt (by omega)]; exact List.drop_eq_getElem_cons (by omega)
    have e2 : b.drop i = gd b i :: b.drop (i + 1) := by rw [gd_lt (by omega)]; exact List.drop_eq_getElem_cons (by omega)
    refine Ev.ite (fun h => ?_) (fun h => ?_)
    · refine (ih (i + 1) (by omega)).to ?_
      rw [e1, e2, h]
      simp
    · refine (Ev.now _).to ?_
      rw [e1, e2]
      simp [h]
theorem eqIntS_ev (a b : List Int) (hl : a.length ≤ 35184372088832) : Ev (fun k => laws_eqIntS.f k a b) (decide (a = b)) := by
  unfold laws_eqIntS.f
  refine Ev.ite (fun h => ?_) (fun h => ?_)
  · exact eqIntS_loop a b (by omega) hl a.length 0 (by omega)
  · refine (Ev.now _).to ?_
    have : a ≠ b := fun e => h (by rw [e])
    simp [this]
theorem eqIntS_same (a : List Int) (hl : a.length ≤ 35184372088832) : Ev (fun k => laws_eqIntS.f k a a) true := (eqIntS_ev a a hl).to (by simp)
def inB (n x : Int) : Bool := decide (0 ≤ x ∧ x < n)
theorem impl_inSize_ev (l : List Int) (n : Int) (hl : l.length ≤ 35184372088832) : Ev (fun k => impl_inSize.f k l n) (l.all (inB n)) := by
  unfold impl_inSize.f
  refine all_loop l 0 (inB n) (fun k i => impl_inSize.l0 k n l (l.length : Int) i) ?_ ?_ ?_ l.length 0 (by omega)
  · exact Ev.step (fun _ => impl_inSize.l0.eq_2 ..) (Ev.neg (by omega) (Ev.now _))
  · intro i r hi hp h
    have hp' := of_decide_eq_true hp
    refine Ev.step (fun _ => impl_inSize.l0.eq_2 ..) ?_
    rw [w64s (n := l.length) (by omega) (by omega), rdn]
    change 0 ≤ gd l i ∧ gd l i < n at hp'
    exact Ev.pos (by omega) (Ev.pos (by omega) (Ev.pos (by omega) (Ev.neg (by omega) (Ev.neg (by omega) h))))
  · intro i hi hp
    have hp' := of_decide_eq_false hp
    change ¬ (0 ≤ gd l i ∧ gd l i < n) at hp'
    refine Ev.step (fun _ => impl_inSize.l0.eq_2 ..) ?_
    rw [rdn]
    refine Ev.pos (by omega) (Ev.pos (by omega) (Ev.pos (by omega) (Ev.ite (fun _ => Ev.now _) (fun h1 => Ev.pos (by omega) (Ev.now _)))))
theorem laws_szIntS_eq (l : List Int) (t : Int) (hl : l.length ≤ maxLen) (ht : 0 ≤ t ∧ t ≤ 1048576) : ∃ r, laws_szIntS.f l t = some r ∧ -1 ≤ r ∧ (0 ≤ r → r = t - l.length) ∧ (r < 0 → t < (l.length : Int)) := by
  unfold maxLen at hl
  unfold laws_szIntS.f
  rw [w64 (by omega) (by omega)]
  split
  · exact ⟨-1, rfl, by omega, by omega, by omega⟩
  · exact ⟨_, rfl, by omega, by omega, by omega⟩
theorem rdi (l : List Int) {i : Int} (h : 0 ≤ i) : rd l i = gd l i.toNat := by
  obtain ⟨j, rfl⟩ : ∃ j : Nat, i = (j : Int) := ⟨i.toNat, by omega⟩
  rw [rdn, Int.toNat_natCast]
theorem spec_l2Elements_ev (n : Int) (l : List Int) (hn : 1 ≤ n ∧ n ≤ 8) (hl : l.length ≤ 8796093022208) : Ev (fun k => spec_l2Elements.f k n l) (l.all (inB n)) := by
  unfold spec_l2Elements.f
  refine all_loop l 0 (inB n) (fun k i => spec_l2Elements.l0 k n l i) ?_ ?_ ?_ l.length 0 (by omega)
  · exact Ev.step (fun _ => spec_l2Elements.l0.eq_2 ..) (Ev.neg (by omega) (Ev.now _))
  · intro i r hi hp h
    have hp' := of_decide_eq_true hp
    change 0 ≤ gd l i ∧ gd l i < n at hp'
    refine Ev.step (fun _ => spec_l2Elements.l0.eq_2 ..) ?_
    rw [w64s (n := l.length) (by omega) (by omega), rdn, spec_l1In_eq, w64 (by omega) (by omega)]
    exact Ev.pos (by omega) (Ev.pos (by omega) (Ev.bind1 (Ev.pos (decide_eq_true (by omega)) h)))
  · intro i hi hp
    have hp' := of_decide_eq_false hp
    change ¬ (0 ≤ gd l i ∧ gd l i < n) at hp'
    refine Ev.step (fun _ => spec_l2Elements.l0.eq_2 ..) ?_
    rw [rdn, spec_l1In_eq, w64 (by omega) (by omega)]
    exact Ev.pos (by omega) (Ev.pos (by omega) (Ev.bind1 (Ev.neg (by rw [decide_eq_true_eq]; omega) (Ev.now _))))
theorem markIntS_loop (l : List Int) (a : Int) (ha : 0 ≤ a) (hb : a + l.length ≤ 4611686018427387904) : ∀ (d i : Nat) (x : List Int), i + d = l.length → x.length = l.length → (∀ j, j < i → gd x j = a + j) → Ev (fun k => laws_markIntS.l0 k x (a + i) (i : Int)) (a + l.length, asc l.length a) := by
  intro d
  induction d with
  | zero =>
    intro i x hi hx h
    refine Ev.step (fun _ => laws_markIntS.l0.eq_2 ..) ?_
    refine Ev.neg (by omega) ?_
    have : x = asc l.length a := by
      apply List.ext_getElem (by simp [asc_length, hx])
      intro j h1 h2
      have e := h j (by omega)
      rw [← gd_lt h1, ← gd_lt h2, e, asc_at a (by omega)]
    subst this
    have : i = l.length := by omega
    subst this
    exact Ev.now _
  | succ d ih =>
    intro i x hi hx h
    refine Ev.step (fun _ => laws_markIntS.l0.eq_2 ..) ?_
    refine Ev.pos (by omega) ?_
    refine Ev.pos (by omega) ?_
    rw [w64s (n := l.length) (by omega) (by omega), w64 (by omega) (by omega), Int.toNat_natCast, show a + (i : Int) + 1 = a + ((i + 1 : Nat) : Int) by omega]
    refine ih (i + 1) _ (by omega) (by simpa using hx) ?_
    intro j hj
    by_cases e : j = i
    · subst e
      simp [gd, List.getD, show j < x.length by omega]
    · have := h j (by omega)
      simp only [gd, List.getD] at this ⊢
      rw [List.getElem?_set_ne (by omega)]
      exact this
theorem markIntS_ev (l : List Int) (a : Int) (ha : 0 ≤ a) (hb : a + l.length ≤ 4611686018427387904) : Ev (fun k => laws_markIntS.f k l a) (a + l.length, asc l.length a) := by
  unfold laws_markIntS.f
  have := markIntS_loop l a ha hb l.length 0 l (by omega) rfl (fun j hj => by omega)
  simpa using this
theorem heldIntS_loop (n : Nat) (a : Int) (ha : 0 ≤ a) (hb : a + n ≤ 4611686018427387904) : ∀ (d i : Nat), i + d = n → Ev (fun k => laws_heldIntS.l0 k (asc n a) (a + i) (i : Int)) (a + n) := by
  intro d
  induction d with
  | zero =>
    intro i hi
    refine Ev.step (fun _ => laws_heldIntS.l0.eq_2 ..) ?_
    refine Ev.neg (by rw [asc_length]; omega) ?_
    have : i = n := by omega
    subst this
    exact Ev.now _
  | succ d ih =>
    intro i hi
    refine Ev.step (fun _ => laws_heldIntS.l0.eq_2 ..) ?_
    refine Ev.pos (by rw [asc_length]; omega) ?_
    refine Ev.pos (by omega) ?_
    refine Ev.pos (by rw [rdn, asc_at a (by omega)]) ?_
    rw [w64s (n := n) (by omega) (by omega), w64 (by omega) (by omega), show a + (i : Int) + 1 = a + ((i + 1 : Nat) : Int) by omega]
    exact ih (i + 1) (by omega)
theorem heldIntS_ev (n : Nat) (a : Int) (ha : 0 ≤ a) (hb : a + n ≤ 4611686018427387904) : Ev (fun k => laws_heldIntS.f k (asc n a) a) (a + n) := by
  unfold laws_heldIntS.f
  have := heldIntS_loop n a ha hb n 0 (by omega)
  simpa using this
theorem rdLL (xs : List (List Int)) (i : Nat) : rd_L1 xs (i : Int) = xs.getD i [] := by simp [rd_L1]
theorem getD_mem {α : Type} {l : List α} {z : α} {i : Nat} (h : i < l.length) : l.getD i z ∈ l := by
  rw [List.getD_eq_getElem?_getD, List.getElem?_eq_getElem h]
  exact List.getElem_mem h
theorem laws_eqIntSS_same (l : List (List Int)) (hl : l.length ≤ 35184372088832) (hg : ∀ x ∈ l, x.length ≤ 35184372088832) : Ev (fun k => laws_eqIntSS.f k l l) true := by
  unfold laws_eqIntSS.f
  refine Ev.pos rfl ?_
  have : Ev (fun k => laws_eqIntSS.l0 k l l ((0 : Nat) : Int)) ((l.drop 0).all fun _ => true) := by
    refine all_loop l [] (fun _ => true) (fun k i => laws_eqIntSS.l0 k l l i) ?_ ?_ ?_ l.length 0 (by omega)
    · exact Ev.step (fun _ => laws_eqIntSS.l0.eq_2 ..) (Ev.neg (by omega) (Ev.now _))
    · intro i r hi _ h
      refine Ev.step (fun _ => laws_eqIntSS.l0.eq_2 ..) ?_
      rw [rdLL, w64s (n := l.length) (by omega) (by omega)]
      exact Ev.pos (by omega) (Ev.pos (by omega) (Ev.pos (by omega) ((eqIntS_same _ (hg _ (getD_mem hi))).bind (Ev.pos rfl h))))
    · intro i hi hp
      simp at hp
  exact this.to (by rw [List.all_eq_true]; intro x _; rfl)
theorem tot_bound (xs : List (List Int)) (n m : Nat) (h : xs.length ≤ n) (h' : ∀ x ∈ xs, x.length ≤ m) : tot xs ≤ n * m := by
  have key : ∀ xs : List (List Int), (∀ x ∈ xs, x.length ≤ m) → tot xs ≤ xs.length * m := by
    intro xs
    induction xs with
    | nil => intro _; simp [tot]
    | cons x xs ih =>
      intro h
      have h1 := h x (by simp)
      have h2 := ih (fun y hy => h y (by simp [hy]))
      simp only [tot, List.map_cons, List.sum_cons, List.length_cons, Nat.succ_mul] at h2 ⊢
      omega
  exact Nat.le_trans (key xs h') (Nat.mul_le_mul_right m h)
theorem laws_szIntSS_loop (l : List (List Int)) (hl : l.length ≤ 1048576) (hg : ∀ x ∈ l, x.length ≤ maxLen) : ∀ (d i : Nat) (t : Int), i + d = l.length → 0 ≤ t ∧ t ≤ 1048576 →
    ∃ r, Ev (fun k => laws_szIntSS.l0 k l t (i : Int)) r ∧ -1 ≤ r ∧ r ≤ t ∧ (0 ≤ r → ∀ x ∈ l.drop i, (x.length : Int) ≤ t) := by
  intro d
  induction d with
  | zero =>
    intro i t hi ht
    refine ⟨t, Ev.step (fun _ => laws_szIntSS.l0.eq_2 ..) (Ev.neg (by omega) (Ev.now _)), by omega, by omega, fun _ x hx => ?_⟩
    rw [List.drop_of_length_le (by omega)] at hx
    simp at hx
  | succ d ih =>
    intro i t hi ht
    have hm : l.getD i [] ∈ l := getD_mem (by omega)
    obtain ⟨r, hr, h1, h2, h3⟩ := laws_szIntS_eq (l.getD i []) t (hg _ hm) ht
    by_cases hn : r < 0
    · refine ⟨-1, Ev.step (fun _ => laws_szIntSS.l0.eq_2 ..) ?_, by omega, by omega, by omega⟩
      rw [rdLL, hr]
      exact Ev.pos (by omega) (Ev.pos (by omega) (Ev.bind1 (Ev.pos hn (Ev.now _))))
    · have he := h2 (by omega)
      obtain ⟨q, hq, h4, h5, h6⟩ := ih (i + 1) r (by omega) (by omega)
      refine ⟨q, Ev.step (fun _ => laws_szIntSS.l0.eq_2 ..) ?_, h4, by omega, fun h0 x hx => ?_⟩
      · rw [rdLL, hr, w64s (n := l.length) (by omega) (by omega)]
        exact Ev.pos (by omega) (Ev.pos (by omega) (Ev.bind1 (Ev.neg hn hq)))
      · rw [drop_cons l [] (by omega), List.mem_cons] at hx
        rcases hx with rfl | hx
        · omega
        · have := h6 h0 x hx
          omega
theorem laws_szIntSS_ev (l : List (List Int)) (t : Int) (hl : l.length ≤ maxLen) (hg : ∀ x ∈ l, x.length ≤ maxLen) (ht : 0 ≤ t ∧ t ≤ 1048576) :
    ∃ r, Ev (fun k => laws_szIntSS.f k l t) r ∧ -1 ≤ r ∧ r ≤ t ∧ (0 ≤ r → (l.length : Int) ≤ t ∧ ∀ x ∈ l, (x.length : Int) ≤ t) := by
  unfold maxLen at hl
  by_cases h : t - (l.length : Int) < 0
  · refine ⟨-1, ?_, by omega, by omega, by omega⟩
    unfold laws_szIntSS.f
    rw [w64 (by omega) (by omega)]
    exact Ev.pos h (Ev.now _)
  · obtain ⟨r, h1, h2, h3, h4⟩ := laws_szIntSS_loop l (by omega) hg l.length 0 (t - l.length) (by omega) (by omega)
    refine ⟨r, ?_, h2, by omega, fun h0 => ⟨by omega, fun x hx => ?_⟩⟩
    · unfold laws_szIntSS.f
      rw [w64 (by omega) (by omega)]
      exact Ev.neg h h1
    · have := h4 h0 x (by simpa using hx)
      omega
theorem laws_toIntSS_ev (l : List (List Int)) (hl : l.length ≤ 8796093022208) (hg : ∀ x ∈ l, x.length ≤ 35184372088832) : Ev (fun k => laws_toIntSS.f k l) l := by
  unfold laws_toIntSS.f
  refine Ev.pos (by omega) (Ev.pos (by omega) ?_)
  refine (set_loop l [] id (fun k out i => laws_toIntSS.l0 k l out i) l ?_ ?_ l.length 0 _ (by omega) (by simp) (fun j hj => by omega))
  · rw [List.map_id]
    exact Ev.step (fun _ => laws_toIntSS.l0.eq_2 ..) (Ev.neg (by omega) (Ev.now _))
  · intro i out hi ho h
    refine Ev.step (fun _ => laws_toIntSS.l0.eq_2 ..) ?_
    rw [rdLL, w64s (n := l.length) (by omega) (by omega), Int.toNat_natCast]
    exact Ev.pos (by omega) (Ev.pos (by omega) ((toIntS_ev _ (hg _ (getD_mem hi))).bind (Ev.pos (by omega) h)))
theorem drop_gd (l : List Int) {i : Nat} (h : i < l.length) : l.drop i = gd l i :: l.drop (i + 1) := drop_cons l 0 h
def cnt (p : List Int) : Nat := p.countP fun x => decide (0 ≤ x)
theorem cnt_le (p : List Int) : cnt p ≤ p.length := List.countP_le_length
theorem cnt_set {p : List Int} {i : Nat} {m : Int} (hi : i < p.length) (h : gd p i < 0) (hm : 0 ≤ m) : cnt (p.set i m) = cnt p + 1 := by
  unfold cnt
  rw [List.countP_set hi]
  rw [gd_lt hi] at h
  have h1 : decide (0 ≤ p[i]) = false := by simp; omega
  have h2 : decide (0 ≤ m) = true := by simp; omega
  simp [h1, h2]
abbrev FS := List Int × Int
def placeL (m : Int) : List Int → FS → Option FS
  | [], s => some s
  | x :: xs, s => if gd s.1 x.toNat ≥ 0 then none else placeL m xs (s.1.set x.toNat m, s.2 + 1)
def leastL (b : List Int) : Int := b.foldl min (gd b 0)
def blockM (n : Int) (b : List Int) (s : FS) : Option FS := if b.length = 0 ∨ b.all (inB n) = false then none else placeL (leastL b) b s
def blocksM (n : Int) : List (List Int) → FS → Option FS
  | [], s => some s
  | b :: bs, s => (blockM n b s).bind (blocksM n bs)
def finF (n : Int) : Option FS → List Int × Bool
  | none => ([], false)
  | some s => if s.2 = n then (s.1, true) else ([], false)
def InvF (n : Int) (s : FS) : Prop := (s.1.length : Int) = n ∧ s.2 = (cnt s.1 : Int)
theorem InvF.le {n : Int} {s : FS} (h : InvF n s) : 0 ≤ s.2 ∧ s.2 ≤ n := by
  have := cnt_le s.1
  obtain ⟨h1, h2⟩ := h
  omega
theorem InvF.set {n : Int} {s : FS} (h : InvF n s) {x m : Int} (hx : 0 ≤ x ∧ x < n) (hm : 0 ≤ m) (hg : ¬ gd s.1 x.toNat ≥ 0) : InvF n (s.1.set x.toNat m, s.2 + 1) := by
  obtain ⟨h1, h2⟩ := h
  refine ⟨by simpa using h1, ?_⟩
  show s.2 + 1 = (cnt (s.1.set x.toNat m) : Int)
  rw [cnt_set (by omega) (by omega) hm]
  omega
theorem placeL_inv {n m : Int} (hm : 0 ≤ m) : ∀ (b : List Int) (s s' : FS), (∀ x ∈ b, 0 ≤ x ∧ x < n) → InvF n s → placeL m b s = some s' → InvF n s' ∧ s'.2 = s.2 + b.length := by
  intro b
  induction b with
  | nil =>
    intro s s' _ h e
    simp only [placeL, Option.some.injEq] at e
    subst e
    exact ⟨h, by simp⟩
  | cons x xs ih =>
    intro s s' hb h e
    rw [placeL] at e
    split at e
    · exact absurd e (by simp)
    · rename_i hg
      obtain ⟨i1, i2⟩ := ih _ s' (fun y hy => hb y (by simp [hy])) (h.set (hb x (by simp)) hm hg) e
      refine ⟨i1, ?_⟩
      rw [i2]
      simp
      omega
theorem foldl_min_nonneg : ∀ (b : List Int) (a : Int), 0 ≤ a → (∀ x ∈ b, 0 ≤ x) → 0 ≤ b.foldl min a := by
  intro b
  induction b with
  | nil => intro a ha _; exact ha
  | cons x xs ih =>
    intro a ha h
    have := h x (by simp)
    exact ih (min a x) (by omega) (fun y hy => h y (by simp [hy]))
theorem leastL_nonneg {n : Int} {b : List Int} (h0 : b.length ≠ 0) (h : ∀ x ∈ b, 0 ≤ x ∧ x < n) : 0 ≤ leastL b := by
  refine foldl_min_nonneg b _ ?_ (fun x hx => (h x hx).1)
  rw [gd_lt (by omega)]
  exact (h _ (List.getElem_mem _)).1
theorem all_inB {n : Int} {b : List Int} (h : b.all (inB n) = true) : ∀ x ∈ b, 0 ≤ x ∧ x < n := by
  simpa only [List.all_eq_true, inB, decide_eq_true_eq] using h
theorem blockM_inv {n : Int} {b : List Int} {s s' : FS} (h : InvF n s) (e : blockM n b s = some s') : InvF n s' ∧ s'.2 = s.2 + b.length ∧ b.length ≠ 0 := by
  unfold blockM at e
  split at e
  · exact absurd e (by simp)
  · rename_i hc
    have h0 : b.length ≠ 0 := fun h => hc (.inl h)
    have ha : b.all (inB n) = true := by
      cases hb : b.all (inB n) with
      | true => rfl
      | false => exact absurd (.inr hb) hc
    have := placeL_inv (leastL_nonneg h0 (all_inB ha)) b s s' (all_inB ha) h e
    exact ⟨this.1, this.2, h0⟩
theorem blocksM_inv {n : Int} : ∀ (bs : List (List Int)) (s s' : FS), InvF n s → blocksM n bs s = some s' → InvF n s' ∧ s.2 + bs.length ≤ s'.2 := by
  intro bs
  induction bs with
  | nil =>
    intro s s' h e
    simp only [blocksM, Option.some.injEq] at e
    subst e
    exact ⟨h, by simp⟩
  | cons b bs ih =>
    intro s s' h e
    rw [blocksM] at e
    obtain ⟨t, e1, e2⟩ := Option.bind_eq_some_iff.1 e
    obtain ⟨i1, i2, i3⟩ := blockM_inv h e1
    obtain ⟨i4, i5⟩ := ih t s' i1 e2
    refine ⟨i4, ?_⟩
    rw [List.length_cons]
    omega
def fromM (n : Int) (bs : List (List Int)) : List Int × Bool := if sizeB n = true then finF n (blocksM n bs (List.replicate n.toNat (-1), 0)) else ([], false)
theorem init_inv {n : Int} (hn : 1 ≤ n) : InvF n (List.replicate n.toNat (-1), 0) := by
  refine ⟨by simp; omega, ?_⟩
  unfold cnt
  rw [List.countP_replicate]
  rfl
theorem fromM_many {n : Int} {bs : List (List Int)} (hn : sizeB n = true) (h : (bs.length : Int) > n) : fromM n bs = ([], false) := by
  have hn' := of_decide_eq_true hn
  unfold fromM
  rw [if_pos hn]
  cases e : blocksM n bs (List.replicate n.toNat (-1), 0) with
  | none => rfl
  | some s =>
    obtain ⟨i1, i2⟩ := blocksM_inv bs _ s (init_inv hn'.1) e
    have := i1.le
    simp only at i2
    omega
theorem mn_min (a b : Int) : mn a b = min a b := by unfold mn; split <;> omega
theorem impl_FromBlocks_neg (n : Nat) (bs : List (List Int)) (hn : n ≤ 8) (r : List Int × Bool) (h : Ev (fun k => impl_FromBlocks.l1 k (n : Int) (List.replicate n (-1)) 0 bs (bs.length : Int) 0) r) :
    ∀ (d i : Nat) (p : List Int), i + d = n → p.length = n → (∀ j, j < i → gd p j = -1) → Ev (fun k => impl_FromBlocks.l0 k (n : Int) bs p (n : Int) (i : Int)) r := by
  intro d
  induction d with
  | zero =>
    intro i p hi hp hg
    have : p = List.replicate n (-1) := by
      apply ext_gd (by simp [hp])
      intro j hj
      rw [hg j (by omega), gd_lt (by simp; omega)]
      simp
    rw [this]
    exact Ev.step (fun _ => impl_FromBlocks.l0.eq_2 ..) (Ev.neg (by omega) h)
  | succ d ih =>
    intro i p hi hp hg
    refine Ev.step (fun _ => impl_FromBlocks.l0.eq_2 ..) ?_
    rw [w64s (n := n) (by omega) (by omega), Int.toNat_natCast]
    refine Ev.pos (by omega) (Ev.pos (by omega) (Ev.pos (by omega) (ih (i + 1) _ (by omega) (by simpa using hp) (fun j hj => ?_))))
    by_cases e : j = i
    · subst e
      rw [set_at _ (by omega)]
    · rw [set_ne _ (fun e' => e e'.symm)]
      exact hg j (by omega)
theorem impl_FromBlocks_place (n m : Int) (hn : 1 ≤ n ∧ n ≤ 8) (hm : 0 ≤ m) (bs : List (List Int)) (at_ : Int) (b : List Int) (hb : b.length ≤ 1048576) (hin : ∀ x ∈ b, 0 ≤ x ∧ x < n) (fin : Option FS → List Int × Bool) (hnone : fin none = ([], false))
    (h : ∀ s, InvF n s → Ev (fun k => impl_FromBlocks.l1 k n s.1 s.2 bs (bs.length : Int) (wrap64 (at_ + 1))) (fin (some s))) :
    ∀ (d i : Nat) (s : FS), i + d = b.length → InvF n s → Ev (fun k => impl_FromBlocks.l3 k n s.1 s.2 m bs (bs.length : Int) at_ b (b.length : Int) (i : Int)) (fin (placeL m (b.drop i) s)) := by
  intro d
  induction d with
  | zero =>
    intro i s hi hs
    rw [List.drop_of_length_le (by omega)]
    exact Ev.step (fun _ => impl_FromBlocks.l3.eq_2 ..) (Ev.neg (by omega) (h s hs))
  | succ d ih =>
    intro i s hi hs
    have hx := hin (gd b i) (by rw [gd_lt (by omega)]; exact List.getElem_mem _)
    have hle := hs.le
    have hs1 := hs.1
    rw [drop_gd b (by omega), placeL]
    refine Ev.step (fun _ => impl_FromBlocks.l3.eq_2 ..) ?_
    rw [rdn, rdi _ hx.1]
    refine Ev.pos (by omega) (Ev.pos (by omega) (Ev.pos (by omega) (Ev.pos hx.1 (Ev.pos (by omega) (Ev.ite (fun hg => ?_) (fun hg => ?_))))))
    · rw [if_pos hg, hnone]
      exact Ev.now _
    · rw [if_neg hg, w64 (x := s.2 + 1) (by omega) (by omega), w64s (i := i) (n := b.length) (by omega) (by omega)]
      exact ih (i + 1) (s.1.set (gd b i).toNat m, s.2 + 1) (by omega) (hs.set hx hm hg)
theorem impl_FromBlocks_least (n : Int) (s : FS) (bs : List (List Int)) (at_ : Int) (b : List Int) (hb : b.length ≤ 1048576) (r : List Int × Bool)
    (h : Ev (fun k => impl_FromBlocks.l3 k n s.1 s.2 (leastL b) bs (bs.length : Int) at_ b (b.length : Int) 0) r) :
    ∀ (d i : Nat), i + d = b.length → Ev (fun k => impl_FromBlocks.l2 k n s.1 s.2 b ((b.take i).foldl min (gd b 0)) bs (bs.length : Int) at_ b (b.length : Int) (i : Int)) r := by
  intro d
  induction d with
  | zero =>
    intro i hi
    rw [List.take_of_length_le (by omega)]
    exact Ev.step (fun _ => impl_FromBlocks.l2.eq_2 ..) (Ev.neg (by omega) h)
  | succ d ih =>
    intro i hi
    refine Ev.step (fun _ => impl_FromBlocks.l2.eq_2 ..) ?_
    rw [rdn, mn_min, w64s (i := i) (n := b.length) (by omega) (by omega)]
    have := ih (i + 1) (by omega)
    rw [← take_snoc b (by omega), List.foldl_append] at this
    exact Ev.pos (by omega) (Ev.pos (by omega) (Ev.pos (by omega) this))
theorem impl_FromBlocks_loop (n : Int) (hn : 1 ≤ n ∧ n ≤ 8) (bs : List (List Int)) (hl : bs.length ≤ 1048576) (hg : ∀ x ∈ bs, x.length ≤ 1048576) :
    ∀ (d i : Nat) (s : FS), i + d = bs.length → InvF n s → Ev (fun k => impl_FromBlocks.l1 k n s.1 s.2 bs (bs.length : Int) (i : Int)) (finF n (blocksM n (bs.drop i) s)) := by
  intro d
  induction d with
  | zero =>
    intro i s hi hs
    rw [List.drop_of_length_le (by omega)]
    refine Ev.step (fun _ => impl_FromBlocks.l1.eq_2 ..) (Ev.neg (by omega) (Ev.ite (fun h => (Ev.now _).to ?_) (fun h => (Ev.now _).to ?_)))
    · simp [blocksM, finF, h]
    · simp [blocksM, finF, h]
  | succ d ih =>
    intro i s hi hs
    have hb := hg (bs.getD i []) (getD_mem (by omega))
    rw [drop_cons bs [] (by omega), blocksM]
    have fail : (bs.getD i []).length = 0 ∨ (bs.getD i []).all (inB n) = false → Ev (fun k => impl_FromBlocks.j2 k n s.1 s.2 (bs.getD i []) bs (bs.length : Int) (i : Int) true) (finF n ((blockM n (bs.getD i []) s).bind (blocksM n (bs.drop (i + 1))))) := fun h => by
      rw [blockM, if_pos h]
      exact Ev.step (fun _ => impl_FromBlocks.j2.eq_2 ..) (Ev.pos rfl (Ev.now _))
    refine Ev.step (fun _ => impl_FromBlocks.l1.eq_2 ..) ?_
    rw [rdLL]
    refine Ev.pos (by omega) (Ev.pos (by omega) (Ev.pos (by omega) (Ev.ite (fun h => fail (.inl (by omega))) (fun h => (impl_inSize_ev _ n (by omega)).bind ?_))))
    cases ha : (bs.getD i []).all (inB n) with
    | false => exact fail (.inr ha)
    | true =>
      have hin := all_inB ha
      refine Ev.step (fun _ => impl_FromBlocks.j2.eq_2 ..) (Ev.neg (by simp) (Ev.pos (by omega) ?_))
      refine impl_FromBlocks_least n s bs i _ hb _ ?_ (bs.getD i []).length 0 (by omega)
      rw [blockM, if_neg (fun h => h.elim (fun h => by omega) (fun h => by rw [ha] at h; cases h))]
      refine impl_FromBlocks_place n (leastL _) hn (leastL_nonneg (by omega) hin) bs i _ hb hin (fun o => finF n (o.bind (blocksM n (bs.drop (i + 1))))) rfl ?_ (bs.getD i []).length 0 s (by omega) hs
      intro s' hs'
      rw [w64s (i := i) (n := bs.length) (by omega) (by omega)]
      exact ih (i + 1) s' (by omega) hs'
theorem impl_FromBlocks_ev (n : Int) (bs : List (List Int)) (hl : bs.length ≤ 1048576) (hg : ∀ x ∈ bs, x.length ≤ 1048576) : Ev (fun k => impl_FromBlocks.f k n bs) (fromM n bs) := by
  unfold impl_FromBlocks.f fromM
  rw [impl_isSize_eq]
  refine Ev.bind1 (Ev.ite (fun h => ?_) (fun h => (Ev.now _).to (by rw [if_neg h])))
  have hn := of_decide_eq_true h
  rw [if_pos h]
  refine Ev.pos (by omega) (Ev.pos (by omega) (Ev.bind1 ?_))
  obtain ⟨m, rfl⟩ : ∃ m : Nat, n = m := ⟨n.toNat, by omega⟩
  rw [List.length_replicate, Int.toNat_natCast]
  refine impl_FromBlocks_neg m bs (by omega) _ ?_ m 0 _ (by omega) (by simp) (fun j hj => by omega)
  have := impl_FromBlocks_loop (m : Int) (by omega) bs hl hg bs.length 0 (List.replicate m (-1), 0) (by omega) (by simpa using init_inv (n := (m : Int)) (by omega))
  simpa using this
theorem spec_l1Least_eq (a b : Int) : spec_l1Least.f a b = some (min a b) := by
  unfold spec_l1Least.f
  split
  · congr 1; omega
  · congr 1; omega
theorem spec_FromBlocks_neg (n : Nat) (bs : List (List Int)) (hn : n ≤ 8) (r : List Int × Bool) (h : Ev (fun k => spec_FromBlocks.l1 k (n : Int) bs (List.replicate n (-1)) 0 0) r) :
    ∀ (d i : Nat) (p : List Int), i + d = n → p.length = n → (∀ j, j < i → gd p j = -1) → Ev (fun k => spec_FromBlocks.l0 k (n : Int) bs p (i : Int)) r := by
  intro d
  induction d with
  | zero =>
    intro i p hi hp hg
    have : p = List.replicate n (-1) := by
      apply ext_gd (by simp [hp])
      intro j hj
      rw [hg j (by omega), gd_lt (by simp; omega)]
      simp
    rw [this]
    exact Ev.step (fun _ => spec_FromBlocks.l0.eq_2 ..) (Ev.neg (by omega) h)
  | succ d ih =>
    intro i p hi hp hg
    refine Ev.step (fun _ => spec_FromBlocks.l0.eq_2 ..) ?_
    rw [w64s (n := n) (by omega) (by omega), Int.toNat_natCast]
    refine Ev.pos (by omega) (Ev.pos (by omega) (Ev.pos (by omega) (ih (i + 1) _ (by omega) (by simpa using hp) (fun j hj => ?_))))
    by_cases e : j = i
    · subst e
      rw [set_at _ (by omega)]
    · rw [set_ne _ (fun e' => e e'.symm)]
      exact hg j (by omega)
theorem spec_FromBlocks_place (n m : Int) (hn : 1 ≤ n ∧ n ≤ 8) (hm : 0 ≤ m) (bs : List (List Int)) (at_ : Nat) (hat : at_ < bs.length) (hb : (bs.getD at_ []).length ≤ 1048576) (hin : ∀ x ∈ bs.getD at_ [], 0 ≤ x ∧ x < n) (fin : Option FS → List Int × Bool) (hnone : fin none = ([], false))
    (h : ∀ s, InvF n s → Ev (fun k => spec_FromBlocks.l1 k n bs s.1 s.2 (wrap64 ((at_ : Int) + 1))) (fin (some s))) :
    ∀ (d i : Nat) (s : FS), i + d = (bs.getD at_ []).length → InvF n s → Ev (fun k => spec_FromBlocks.l3 k n bs s.1 s.2 (at_ : Int) m (i : Int)) (fin (placeL m ((bs.getD at_ []).drop i) s)) := by
  intro d
  induction d with
  | zero =>
    intro i s hi hs
    rw [List.drop_of_length_le (by omega)]
    refine Ev.step (fun _ => spec_FromBlocks.l3.eq_2 ..) ?_
    rw [rdLL]
    exact Ev.pos (by omega) (Ev.pos (by omega) (Ev.neg (by omega) (h s hs)))
  | succ d ih =>
    intro i s hi hs
    have hx := hin (gd (bs.getD at_ []) i) (by rw [gd_lt (by omega)]; exact List.getElem_mem _)
    have hle := hs.le
    have hs1 := hs.1
    rw [drop_gd (bs.getD at_ []) (by omega), placeL]
    refine Ev.step (fun _ => spec_FromBlocks.l3.eq_2 ..) ?_
    rw [rdLL, rdn, rdi _ hx.1]
    refine Ev.pos (by omega) (Ev.pos (by omega) (Ev.pos (by omega) (Ev.pos (by omega) (Ev.pos hx.1 (Ev.pos (by omega) (Ev.ite (fun hg => ?_) (fun hg => ?_)))))))
    · rw [if_pos hg, hnone]
      exact Ev.now _
    · rw [if_neg hg, w64 (x := s.2 + 1) (by omega) (by omega), w64s (i := i) (n := (bs.getD at_ []).length) (by omega) (by omega)]
      exact ih (i + 1) (s.1.set (gd (bs.getD at_ []) i).toNat m, s.2 + 1) (by omega) (hs.set hx hm hg)
theorem spec_FromBlocks_least (n : Int) (s : FS) (bs : List (List Int)) (at_ : Nat) (hat : at_ < bs.length) (hb : (bs.getD at_ []).length ≤ 1048576) (r : List Int × Bool)
    (h : Ev (fun k => spec_FromBlocks.l3 k n bs s.1 s.2 (at_ : Int) (leastL (bs.getD at_ [])) 0) r) :
    ∀ (d i : Nat), i + d = (bs.getD at_ []).length → Ev (fun k => spec_FromBlocks.l2 k n bs s.1 s.2 (at_ : Int) (((bs.getD at_ []).take i).foldl min (gd (bs.getD at_ []) 0)) (i : Int)) r := by
  intro d
  induction d with
  | zero =>
    intro i hi
    rw [List.take_of_length_le (by omega)]
    refine Ev.step (fun _ => spec_FromBlocks.l2.eq_2 ..) ?_
    rw [rdLL]
    exact Ev.pos (by omega) (Ev.pos (by omega) (Ev.neg (by omega) h))
  | succ d ih =>
    intro i hi
    refine Ev.step (fun _ => spec_FromBlocks.l2.eq_2 ..) ?_
    rw [rdLL, rdn, spec_l1Least_eq, w64s (i := i) (n := (bs.getD at_ []).length) (by omega) (by omega)]
    have := ih (i + 1) (by omega)
    rw [← take_snoc (bs.getD at_ []) (by omega), List.foldl_append] at this
    exact Ev.pos (by omega) (Ev.pos (by omega) (Ev.pos (by omega) (Ev.pos (by omega) (Ev.bind1 this))))
theorem spec_FromBlocks_loop (n : Int) (hn : 1 ≤ n ∧ n ≤ 8) (bs : List (List Int)) (hl : bs.length ≤ 1048576) (hg : ∀ x ∈ bs, x.length ≤ 1048576) :
    ∀ (d i : Nat) (s : FS), i + d = bs.length → InvF n s → Ev (fun k => spec_FromBlocks.l1 k n bs s.1 s.2 (i : Int)) (finF n (blocksM n (bs.drop i) s)) := by
  intro d
  induction d with
  | zero =>
    intro i s hi hs
    rw [List.drop_of_length_le (by omega)]
    refine Ev.step (fun _ => spec_FromBlocks.l1.eq_2 ..) (Ev.neg (by omega) (Ev.ite (fun h => (Ev.now _).to ?_) (fun h => (Ev.now _).to ?_)))
    · simp [blocksM, finF, h]
    · simp [blocksM, finF, h]
  | succ d ih =>
    intro i s hi hs
    have hb := hg (bs.getD i []) (getD_mem (by omega))
    rw [drop_cons bs [] (by omega), blocksM]
    have fail : blockM n (bs.getD i []) s = none → Ev (fun k => spec_FromBlocks.j3 k n bs s.1 s.2 (i : Int) true) (finF n ((blockM n (bs.getD i []) s).bind (blocksM n (bs.drop (i + 1))))) := fun h => by
      rw [h]
      exact Ev.step (fun _ => spec_FromBlocks.j3.eq_2 ..) (Ev.pos rfl (Ev.now _))
    have big : ((bs.getD i []).length : Int) > n → blockM n (bs.getD i []) s = none := fun h => by
      cases e : blockM n (bs.getD i []) s with
      | none => rfl
      | some s' =>
        obtain ⟨i1, i2, i3⟩ := blockM_inv hs e
        have := i1.le
        have := hs.le
        omega
    refine Ev.step (fun _ => spec_FromBlocks.l1.eq_2 ..) ?_
    rw [rdLL]
    refine Ev.pos (by omega) (Ev.pos (by omega) (Ev.ite (fun h => fail (by rw [blockM, if_pos (.inl (by omega))])) (fun h => Ev.ite (fun h' => fail (big h')) (fun h' => (spec_l2Elements_ev n _ hn (by omega)).bind ?_))))
    cases ha : (bs.getD i []).all (inB n) with
    | false => exact fail (by rw [blockM, if_pos (.inr ha)])
    | true =>
      have hin := all_inB ha
      refine Ev.step (fun _ => spec_FromBlocks.j3.eq_2 ..) (Ev.neg (by simp) (Ev.pos (by omega) (Ev.pos (by omega) ?_)))
      rw [rdLL]
      refine Ev.pos (by omega) ?_
      refine spec_FromBlocks_least n s bs i (by omega) hb _ ?_ (bs.getD i []).length 0 (by omega)
      rw [blockM, if_neg (fun h => h.elim (fun h => by omega) (fun h => by rw [ha] at h; cases h))]
      refine spec_FromBlocks_place n (leastL _) hn (leastL_nonneg (by omega) hin) bs i (by omega) hb hin (fun o => finF n (o.bind (blocksM n (bs.drop (i + 1))))) rfl ?_ (bs.getD i []).length 0 s (by omega) hs
      intro s' hs'
      rw [w64s (i := i) (n := bs.length) (by omega) (by omega)]
      exact ih (i + 1) s' (by omega) hs'
theorem spec_FromBlocks_ev (n : Int) (bs : List (List Int)) (hl : bs.length ≤ 1048576) (hg : ∀ x ∈ bs, x.length ≤ 1048576) : Ev (fun k => spec_FromBlocks.f k n bs) (fromM n bs) := by
  unfold spec_FromBlocks.f
  rw [spec_l6Size_eq]
  refine Ev.bind1 (Ev.ite (fun h => ?_) (fun h => ?_))
  · have hn := of_decide_eq_true h
    by_cases hm : (bs.length : Int) > n
    · rw [fromM_many h hm]
      exact Ev.step (fun _ => spec_FromBlocks.j0.eq_2 ..) (Ev.pos (decide_eq_true hm) (Ev.now _))
    · unfold fromM
      rw [if_pos h]
      refine Ev.step (fun _ => spec_FromBlocks.j0.eq_2 ..) (Ev.neg (by simpa using hm) (Ev.pos (by omega) (Ev.pos (by omega) ?_)))
      obtain ⟨m, rfl⟩ : ∃ m : Nat, n = m := ⟨n.toNat, by omega⟩
      rw [Int.toNat_natCast]
      refine spec_FromBlocks_neg m bs (by omega) _ ?_ m 0 _ (by omega) (by simp) (fun j hj => by omega)
      have := spec_FromBlocks_loop (m : Int) (by omega) bs hl hg bs.length 0 (List.replicate m (-1), 0) (by omega) (by simpa using init_inv (n := (m : Int)) (by omega))
      simpa using this
  · unfold fromM
    rw [if_neg h]
    exact Ev.step (fun _ => spec_FromBlocks.j0.eq_2 ..) (Ev.pos rfl (Ev.now _))
theorem fromM_length (n : Int) (bs : List (List Int)) : (fromM n bs).1.length ≤ 8 := by
  unfold fromM
  split
  · rename_i h
    have hn := of_decide_eq_true h
    cases e : blocksM n bs (List.replicate n.toNat (-1), 0) with
    | none => simp [finF]
    | some s =>
      obtain ⟨i1, i2⟩ := blocksM_inv bs _ s (init_inv hn.1) e
      have := i1.1
      unfold finF
      simp only
      split
      · show s.1.length ≤ 8
        omega
      · simp
  · simp
theorem FnExactFromBlocks : Stmt.FnExactFromBlocks := by
  intro n bs _ hR gR
  obtain ⟨u, k1, k2, k3, k4⟩ := laws_szIntSS_ev bs 1048576 hR (fun x hx => (gR x hx).1) (by omega)
  by_cases hu : 0 ≤ u
  · have k5 := k4 hu
    have hl : bs.length ≤ 1048576 := by omega
    have hg : ∀ x ∈ bs, x.length ≤ 1048576 := fun x hx => by have := k5.2 x hx; omega
    have hd := fromM_length n bs
    have hT := tot_bound bs 1048576 1048576 hl hg
    obtain ⟨k, e1, e2, e3, e4, e5, e6, e7, e8⟩ := ((Evs.of k1).and ((Evs.of (laws_toIntSS_ev bs (by omega) (fun x hx => by have := hg x hx; omega))).and ((Evs.of (spec_FromBlocks_ev n bs hl hg)).and ((Evs.of (impl_FromBlocks_ev n bs hl hg)).and
      ((Evs.of (eqIntS_same (fromM n bs).1 (by omega))).and ((Evs.of (laws_eqIntSS_same bs (by omega) (fun x hx => by have := hg x hx; omega))).and
      ((Evs.of (markIntS_ev (fromM n bs).1 1 (by omega) (by omega))).and (Evs.of (heldIntS_ev (fromM n bs).1.length 1 (by omega) (by omega)))))))))).ex
    exact ⟨k, u, e1, fun _ => ⟨bs, (fromM n bs).1, (fromM n bs).2, e2, e3, e4, e5, e6, e7, e8, by omega⟩⟩
  · obtain ⟨k, hk⟩ := k1.rounds
    exact ⟨k, u, hk, fun h => absurd h hu⟩
end Go.Proofs.Ytajabnbonkophaa.Pure

namespace Go.Proofs.Ytajabnbonkophaa
open Go.RowKit Go.Proofs.YtajabnbonkophaaW.PrintWords Go.Proofs.YtajabnbonkophaaW.PrintLast Go.Proofs.YtajabnbonkophaaW.PrintMore Go.Proofs.Ytajabnbonkophaa.Live Go.Proofs.Ytajabnbonkophaa.Q
set_option linter.unusedVariables false
set_option linter.unusedSimpArgs false
set_option maxRecDepth 100000
set_option maxHeartbeats 8000000 in
theorem Walk.FnExactFromBlocks (a0 : Int) (A1 : Option Addr) (c1 : Nat) (l1 : List (List (Int))) (W : World) (hr1 : Kd.C (Kd.slice 3 (Kd.int .i64)) W A1 l1.length l1) (hc1 : l1.length ≤ c1) (g0 : (Lit.int .i64 a0).wf = true) (hm1 : l1.length ≤ maxLen) (hg1 : ∀ x ∈ l1, x.length ≤ maxLen ∧ ∀ y_x ∈ x, (Lit.int .i64 y_x).wf = true) :
    Calls Try.prog 12 #[.int .i64 a0, .slice A1 l1.length c1] W fun e w' => e = .returned (.bool true) ∧ Below W.heap.size W w' := by
  have P := fun (_ : True) => Pure.FnExactFromBlocks a0 l1 g0 hm1 hg1
  have hu34 := Try.underlying34
  have HR1 := Aside0.mk hr1
  have HC1 := Aside0.mk hc1
  have hm1_ : l1.length ≤ 9223372036854775807 := by unfold maxLen at hm1; omega
  clear hr1 hc1 g0 hm1 hg1
  obtain ⟨k, P⟩ := P trivial
  obtain ⟨t0, hF0, P⟩ := P
  have F0 := Aside0.mk hF0
  clear hF0
  have HP1 := Aside0.mk P
  clear P
  by_cases d1 : t0 < 0
  · have q1 : decide (t0 < 0) = true := decide_eq_true d1
    go_enter Try.func12, Try.ntmps12
    go_wp2_with fail
    (with_reducible refine (laws_szIntSS.calls k _ _ l1 1048576 t0 _ (Kd.C_below HR1.out (Below.refl _ _)) HC1.out F0.out).mono ?_)
    rintro e w1 ⟨rfl, hbw1⟩
    have HLw1 := Aside0.mk ((Live.nil W).below hbw1.below)
    have HBw1 := Aside0.mk (below_step (Below.refl _ _) (hbw1.below))
    clear hbw1
    go_wp2
    go_ret
    exact ⟨rfl, HBw1.out⟩
  have q1 : decide (t0 < 0) = false := decide_eq_false d1
  have P := HP1.out (by omega)
  clear HP1
  obtain ⟨X0, X1, X2, hF1, hF2, hF3, hF4, hF5, hF6, hF7, hB0⟩ := P
  have F1 := Aside0.mk hF1
  have F2 := Aside0.mk hF2
  have F3 := Aside0.mk hF3
  have F4 := Aside0.mk hF4
  have F5 := Aside0.mk hF5
  have F6 := Aside0.mk hF6
  have F7 := Aside0.mk hF7
  have HBD := Aside0.mk (show (1 + (tot X0 : Int)) ≤ 4611686018427387904 from hB0)
  clear hF1 hF2 hF3 hF4 hF5 hF6 hF7 hB0
  have hneX2 : (X2 != X2) = false := bne_self_eq_false X2
  go_enter Try.func12, Try.ntmps12
  go_wp2_with fail
  (with_reducible refine (laws_szIntSS.calls k _ _ l1 1048576 t0 _ (Kd.C_below HR1.out (Below.refl _ _)) HC1.out F0.out).mono ?_)
  rintro e w1 ⟨rfl, hbw1⟩
  have HLw1 := Aside0.mk ((Live.nil W).below hbw1.below)
  have HBw1 := Aside0.mk (below_step (Below.refl _ _) (hbw1.below))
  clear hbw1
  go_wp2_with fail
  (with_reducible refine (laws_toIntSS.calls k _ _ l1 X0 _ (Kd.C_below HR1.out (HBw1.out)) HC1.out F1.out).mono ?_)
  rintro e w2 ⟨vw2_0, rfl, how2_0, hbw2⟩
  obtain ⟨Aw2, cw2, rfl⟩ := Kd.S_slice how2_0
  obtain ⟨low2, hiw2, hlw2⟩ := Live.make_S HLw1.out hbw2 how2_0 (below_size (HBw1.out))
  have HLw2 := Aside0.mk hlw2
  clear hlw2 how2_0
  have HBw2 := Aside0.mk (below_step (HBw1.out) (hbw2))
  clear hbw2
  go_wp2_with fail
  (with_reducible refine (spec_FromBlocks.calls k a0 _ _ X0 X1 X2 _ (Kd.S_reads' (HLw2.out.get 0 rfl)).2.2 (Kd.S_reads' (HLw2.out.get 0 rfl)).2.1 F2.out).mono ?_)
  rintro e w3 ⟨vw3_0, rfl, how3_0, hbw3⟩
  obtain ⟨Aw3, cw3, rfl⟩ := Kd.R_slice how3_0
  obtain ⟨low3, hiw3, hlw3⟩ := Live.make_R HLw2.out hbw3 how3_0 (below_size (HBw2.out))
  have HLw3 := Aside0.mk hlw3
  clear hlw3 how3_0
  have HBw3 := Aside0.mk (below_step (HBw2.out) (hbw3))
  clear hbw3
  go_wp2_with fail
  (with_reducible refine (laws_toIntSS.calls k _ _ l1 X0 _ (Kd.C_below HR1.out (HBw3.out)) HC1.out F1.out).mono ?_)
  rintro e w4 ⟨vw4_0, rfl, how4_0, hbw4⟩
  obtain ⟨Aw4, cw4, rfl⟩ := Kd.S_slice how4_0
  obtain ⟨low4, hiw4, hlw4⟩ := Live.make_S HLw3.out hbw4 how4_0 (below_size (HBw3.out))
  have HLw4 := Aside0.mk hlw4
  clear hlw4 how4_0
  have HBw4 := Aside0.mk (below_step (HBw3.out) (hbw4))
  clear hbw4
  go_wp2_with fail
  (with_reducible refine (impl_FromBlocks.calls k a0 _ _ X0 X1 X2 _ (Kd.S_reads' (HLw4.out.get 0 rfl)).2.2 (Kd.S_reads' (HLw4.out.get 0 rfl)).2.1 F3.out).mono ?_)
  rintro e w5 ⟨vw5_0, rfl, how5_0, hbw5⟩
  obtain ⟨Aw5, cw5, rfl⟩ := Kd.R_slice how5_0
  obtain ⟨low5, hiw5, hlw5⟩ := Live.make_R HLw4.out hbw5 how5_0 (below_size (HBw4.out))
  have HLw5 := Aside0.mk hlw5
  clear hlw5 how5_0
  have HBw5 := Aside0.mk (below_step (HBw4.out) (hbw5))
  clear hbw5
  go_wp2_with fail
  (with_reducible refine (laws_eqIntS.calls k _ _ X1 _ _ X1 true _ (Kd.R_reads' (HLw5.out.get 0 rfl)).2.2 (Kd.R_reads' (HLw5.out.get 0 rfl)).2.1 (Kd.R_reads' (HLw5.out.get 2 rfl)).2.2 (Kd.R_reads' (HLw5.out.get 2 rfl)).2.1 F4.out).mono ?_)
  rintro e w6 ⟨rfl, hbw6⟩
  have HLw6 := Aside0.mk (HLw5.out.below hbw6.below)
  have HBw6 := Aside0.mk (below_step (HBw5.out) (hbw6.below))
  clear hbw6
  go_wp2_with fail
  (with_reducible refine (laws_toIntSS.calls k _ _ l1 X0 _ (Kd.C_below HR1.out (HBw6.out)) HC1.out F1.out).mono ?_)
  rintro e w7 ⟨vw7_0, rfl, how7_0, hbw7⟩
  obtain ⟨Aw7, cw7, rfl⟩ := Kd.S_slice how7_0
  obtain ⟨low7, hiw7, hlw7⟩ := Live.make_S HLw6.out hbw7 how7_0 (below_size (HBw6.out))
  have HLw7 := Aside0.mk hlw7
  clear hlw7 how7_0
  have HBw7 := Aside0.mk (below_step (HBw6.out) (hbw7))
  clear hbw7
  go_wp2_with fail
  (with_reducible refine (laws_eqIntSS.calls k _ _ X0 _ _ X0 true _ (Kd.S_reads' (HLw7.out.get 2 rfl)).2.2 (Kd.S_reads' (HLw7.out.get 2 rfl)).2.1 (Kd.S_reads' (HLw7.out.get 0 rfl)).2.2 (Kd.S_reads' (HLw7.out.get 0 rfl)).2.1 F5.out).mono ?_)
  rintro e w8 ⟨rfl, hbw8⟩
  have HLw8 := Aside0.mk (HLw7.out.below hbw8.below)
  have HBw8 := Aside0.mk (below_step (HBw7.out) (hbw8.below))
  clear hbw8
  go_wp2_with fail
  (with_reducible refine (laws_markIntSS.marks (fun k => low4 ≤ k ∧ k < hiw4) _ X0 1 W _ (HBw8.out) (HLw8.out.get 2 rfl) (by have := HBD.out; omega) (by have := HBD.out; omega)).mono ?_)
  rintro e w9 ⟨rfl, hm1, hm2, hm3⟩
  have HLw9 := Aside0.mk (Live.mark HLw8.out 2 rfl hm3 (seg_S hm1 (fun k hk _ _ => hk) (Nat.le_refl _)))
  have HBw9 := Aside0.mk hm2
  clear hm1 hm2 hm3
  go_wp2_with fail
  (with_reducible refine (laws_eqIntS.calls k _ _ X1 _ _ X1 true _ (Kd.R_reads' (HLw9.out.get 1 rfl)).2.2 (Kd.R_reads' (HLw9.out.get 1 rfl)).2.1 (Kd.R_reads' (HLw9.out.get 3 rfl)).2.2 (Kd.R_reads' (HLw9.out.get 3 rfl)).2.1 F4.out).mono ?_)
  rintro e w10 ⟨rfl, hbw10⟩
  have HLw10 := Aside0.mk (HLw9.out.below hbw10.below)
  have HBw10 := Aside0.mk (below_step (HBw9.out) (hbw10.below))
  clear hbw10
  go_wp2_with fail
  (with_reducible refine (laws_markIntS.calls k (fun k => low5 ≤ k ∧ k < hiw5) _ X1 1 _ _ W _ (HBw10.out) (HLw10.out.get 1 rfl) F6.out).mono ?_)
  rintro e w11 ⟨rfl, hm1, hm2, hm3⟩
  have HLw11 := Aside0.mk (Live.mark HLw10.out 1 rfl hm3 (seg_R (Kd.R_mono (Kd.R_tight rfl hm1) (fun k hk => (HLw10.out.get 1 rfl).1 k hk.symm)) (fun k hk _ _ => hk) (Nat.le_refl _)))
  have HBw11 := Aside0.mk hm2
  clear hm1 hm2 hm3
  go_wp2_with fail
  have r_ := (Kd.R_reads' (HLw11.out.get 1 rfl)).2
  have q_ := laws_heldIntS.calls k _ _ (asc X1.length 1) 1 (1 + (X1.length : Int)) _ (by first | exact r_.2 | (rw [asc_length]; exact r_.2)) (by first | exact r_.1 | (rw [asc_length]; exact r_.1)) F7.out
  rw [asc_length] at q_
  (with_reducible refine q_.mono ?_)
  clear q_ r_
  rintro e w12 ⟨rfl, hbw12⟩
  have HLw12 := Aside0.mk (HLw11.out.below hbw12.below)
  have HBw12 := Aside0.mk (below_step (HBw11.out) (hbw12.below))
  clear hbw12
  go_wp2_with fail
  (with_reducible refine (laws_toIntSS.calls k _ _ l1 X0 _ (Kd.C_below HR1.out (HBw12.out)) HC1.out F1.out).mono ?_)
  rintro e w13 ⟨vw13_0, rfl, how13_0, hbw13⟩
  obtain ⟨Aw13, cw13, rfl⟩ := Kd.S_slice how13_0
  obtain ⟨low13, hiw13, hlw13⟩ := Live.make_S HLw12.out hbw13 how13_0 (below_size (HBw12.out))
  have HLw13 := Aside0.mk hlw13
  clear hlw13 how13_0
  have HBw13 := Aside0.mk (below_step (HBw12.out) (hbw13))
  clear hbw13
  go_wp2_with fail
  (with_reducible refine (impl_FromBlocks.calls k a0 _ _ X0 X1 X2 _ (Kd.S_reads' (HLw13.out.get 0 rfl)).2.2 (Kd.S_reads' (HLw13.out.get 0 rfl)).2.1 F3.out).mono ?_)
  rintro e w14 ⟨vw14_0, rfl, how14_0, hbw14⟩
  obtain ⟨Aw14, cw14, rfl⟩ := Kd.R_slice how14_0
  obtain ⟨low14, hiw14, hlw14⟩ := Live.make_R HLw13.out hbw14 how14_0 (below_size (HBw13.out))
  have HLw14 := Aside0.mk hlw14
  clear hlw14 how14_0
  have HBw14 := Aside0.mk (below_step (HBw13.out) (hbw14))
  clear hbw14
  go_wp2_with fail
  (with_reducible refine (laws_eqIntS.calls k _ _ X1 _ _ X1 true _ (Kd.R_reads' (HLw14.out.get 0 rfl)).2.2 (Kd.R_reads' (HLw14.out.get 0 rfl)).2.1 (Kd.R_reads' (HLw14.out.get 5 rfl)).2.2 (Kd.R_reads' (HLw14.out.get 5 rfl)).2.1 F4.out).mono ?_)
  rintro e w15 ⟨rfl, hbw15⟩
  have HLw15 := Aside0.mk (HLw14.out.below hbw15.below)
  have HBw15 := Aside0.mk (below_step (HBw14.out) (hbw15.below))
  clear hbw15
  go_wp2_with fail
  have r_ := (Kd.R_reads' (HLw15.out.get 3 rfl)).2
  have q_ := laws_heldIntS.calls k _ _ (asc X1.length 1) 1 (1 + (X1.length : Int)) _ (by first | exact r_.2 | (rw [asc_length]; exact r_.2)) (by first | exact r_.1 | (rw [asc_length]; exact r_.1)) F7.out
  rw [asc_length] at q_
  (with_reducible refine q_.mono ?_)
  clear q_ r_
  rintro e w16 ⟨rfl, hbw16⟩
  have HLw16 := Aside0.mk (HLw15.out.below hbw16.below)
  have HBw16 := Aside0.mk (below_step (HBw15.out) (hbw16.below))
  clear hbw16
  go_wp2
  go_ret
  exact ⟨rfl, HBw16.out⟩
end Go.Proofs.Ytajabnbonkophaa
