/- The law FnExactProductOf as the seat states it: for every input that reads as data the call returns true; no condition. -/
import Derived.Test.YtccjheikjcpgmaaRows
import Derived.Test.YtccjheikjcpgmaaZFnExactProductOfe
import Derived.WalkKit
import Derived.ProofKit
import Derived.OpenShut
import Derived.ShutString
import Derived.ChangeOld
import Derived.Below
import Derived.SizedLaws
namespace Go.Proofs.Ytccjheikjcpgmaa.fnExactProductOf
open Go.ChangeShapes Go.WideShapes Go.ChangeAt Go.RowKit Go.Proofs.Ytccjheikjcpgmaa.Opens Go.Proofs.YtccjheikjcpgmaaW.PrintWords
set_option linter.unusedVariables false
theorem own : ownKnob Try.prog.godebug = none := by kernel_rfl
theorem laidOut : laidOutB Try.prog = true := by kernel_rfl
set_option maxRecDepth 100000 in
theorem lifted (os : Os) (started : os.Started) (H : Type) (enc : TypeId × Value → H) :
    ReturnsInHanded {} Try.checked os 3 .any (Rows.fnExactProductOfSpec.pre6 enc Try.prog Try.f3 Rows.fnExactProductOfRow.domain false) (Rows.fnExactProductOfSpec.post enc Try.prog Try.f3 false true false false) := by
  refine returnsInHanded_of_change_sized (C := Try.checked) own started (by kernel_rfl) Try.func3
    (ChangeSpec.witness6 (enc := enc) (C := Try.checked) false ⟨#[], #[.agg #[.int .i64 0, .slice none 0 0], .agg #[.int .i64 0, .slice none 0 0]], []⟩ 8 (by kernel_rfl) (by kernel_rfl) (by kernel_rfl) (by kernel_rfl)) ?_
  intro W base args ds gs before hval0 hW hcnd hsz0 _
  have hval : ∀ (j : Nat) t v, Try.f3.params[j]? = some t → args[j]? = some v → Value.okWide Try.prog W .any base t v := hval0
  have hW' := hW
  obtain ⟨p, q, hA0, hV, rfl, hfz, hnd⟩ := hW
  have hA : DataW.TrodAll enc Try.prog W 0 (fun _ => true) true Try.f3.params.toList args.toList ds p := hA0
  rw [Try.params3] at hA hval
  obtain ⟨v0, vs0, d0, ds0, p0, q0, hargs, rfl, rfl, h0, r0⟩ := trodAll_cons hA
  obtain ⟨v1, vs1, d1, ds1, p1, q1, rfl, rfl, rfl, h1, r1⟩ := trodAll_cons r0
  obtain ⟨rfl, rfl, rfl⟩ := trodAll_nil r1
  obtain rfl : args = #[v0, v1] := by cases args; simp_all
  obtain ⟨rfl, rfl⟩ := trodVars_none hV
  have k0 := h0
  have lt0 : ∀ x ∈ p0, x.block < W.heap.size := by obtain ⟨m, hm⟩ := k0; exact DataW.trod_lt m _ _ _ hm
  obtain ⟨a0, A0, c0, l0, rfl, hc0, hr0, w0, hm0, hg0⟩ := open_int_slice (d := Q.k37) (e' := 37) Try.underlying24 (opens_pair Try.underlying24 (by kernel_rfl) (by kernel_rfl) (opens_int Try.underlying3) (opens_slice (e' := 37) Try.underlying22 (by kernel_rfl) (opens_two (f := fun x : Q.S37 => (x.f0, x.f1)) (mk := fun p => ⟨p.1, p.2⟩) (fun _ => rfl) Try.underlying37 (by kernel_rfl) (by kernel_rfl) (opens_int Try.underlying3) (opens_slice (e' := 3) Try.underlying35 (by kernel_rfl) (opens_int Try.underlying3))))) (hval 0 24 v0 rfl rfl) h0
  have k1 := h1
  have lt1 : ∀ x ∈ p1, x.block < W.heap.size := by obtain ⟨m, hm⟩ := k1; exact DataW.trod_lt m _ _ _ hm
  obtain ⟨a1, A1, c1, l1, rfl, hc1, hr1, w1, hm1, hg1⟩ := open_int_slice (d := Q.k37) (e' := 37) Try.underlying24 (opens_pair Try.underlying24 (by kernel_rfl) (by kernel_rfl) (opens_int Try.underlying3) (opens_slice (e' := 37) Try.underlying22 (by kernel_rfl) (opens_two (f := fun x : Q.S37 => (x.f0, x.f1)) (mk := fun p => ⟨p.1, p.2⟩) (fun _ => rfl) Try.underlying37 (by kernel_rfl) (by kernel_rfl) (opens_int Try.underlying3) (opens_slice (e' := 3) Try.underlying35 (by kernel_rfl) (opens_int Try.underlying3))))) (hval 1 24 v1 rfl rfl) h1
  clear hA0 hval0 hsz0
  refine (Walk.FnExactProductOf a0 _ _ l0 a1 _ _ l1 W hr0 hc0 hr1 hc1 w0 hm0 hg0 w1 hm1 hg1).mono fun e W' ⟨he, bel⟩ => ?_
  subst he
  exact ⟨_, rfl, _, _, _, [], _, [], hW', trodAll_mk1 (shut_bool Try.underlying4 _), (trodAll_cons_mk (Below.trod laidOut (by kernel_rfl) (of_decide_eq_true (by kernel_rfl)) k0 bel lt0) (trodAll_cons_mk (Below.trod laidOut (by kernel_rfl) (of_decide_eq_true (by kernel_rfl)) k1 bel lt1) trodAll_mk0)), rfl, bel.frame _, fun h => by cases h⟩
theorem over : Rows.fnExactProductOfRow.holds Try.pinned (OpenSpec.ofChange Rows.fnExactProductOfSpec) :=
  OpenClaim.holds_of_wide 3 Try.f3 rfl rfl rfl rfl rfl rfl rfl ⟨rfl, rfl, rfl, rfl, rfl⟩ rfl rfl rfl rfl rfl (by kernel_rfl) Try.func3 (by kernel_rfl)
    (of_decide_eq_true (by kernel_rfl)) (by unfold Func.isWrapper; first | (rw [if_pos (by decide +kernel)]; kernel_rfl) | (rw [if_neg (by decide +kernel)]; exact ⟨rfl, rfl⟩))
    (fun os started H enc _ => lifted os started H enc)
theorem proved : Rows.FnExactProductOfSaid := over
#print axioms proved
end Go.Proofs.Ytccjheikjcpgmaa.fnExactProductOf
namespace Go.Proofs.Ytccjheikjcpgmaa
theorem fnExactProductOf_holds : Rows.FnExactProductOfSaid := fnExactProductOf.proved
end Go.Proofs.Ytccjheikjcpgmaa
