/- The row of the law FnExactValidFrame: for every input it returns true; the input reads as it did. -/
import Derived.Test.YtfmkbcmoibhffaaRows
import Derived.Test.YtfmkbcmoibhffaaKindsFnExactValidFrame
import Derived.Test.YtfmkbcmoibhffaaPureFnExactValidFrame
import Derived.WalkKit
import Derived.ProofKit
import Derived.OpenShut
import Derived.ShutString
import Derived.ChangeOld
import Derived.Below
import Derived.SizedLaws
import Derived.Carry
namespace Go.Proofs.Ytfmkbcmoibhffaa.fnExactValidFrame
open Go.ChangeShapes Go.WideShapes Go.ChangeAt Go.RowKit Go.Proofs.YtfmkbcmoibhffaaW.PrintWords Go.Proofs.Ytfmkbcmoibhffaa.Open Go.Proofs.Ytfmkbcmoibhffaa.PFnExactValidFrame
open Go.ChangeMaps (open_string shut_string)
set_option linter.unusedVariables false
theorem own : ownKnob Try.prog.godebug = none := by kernel_rfl
theorem laidOut : laidOutB Try.prog = true := by kernel_rfl
set_option maxRecDepth 100000 in
theorem lifted (os : Os) (started : os.Started) (H : Type) (enc : TypeId × Value → H) :
    ReturnsInHanded {} Try.checked os 4 .any (Rows.fnExactValidFrameSpec.pre6 enc Try.prog Try.f4 Rows.fnExactValidFrameRow.domain false) (Rows.fnExactValidFrameSpec.post enc Try.prog Try.f4 false true false false) := by
  refine returnsInHanded_of_change_sized (C := Try.checked) own started (by kernel_rfl) Try.func4
    (ChangeSpec.witness6 (enc := enc) (C := Try.checked) false ⟨#[], #[.agg #[.int .i64 0, .int .i64 0, .int .i64 0, .int .i64 0, .int .i64 0]], []⟩ 8 (by kernel_rfl) (by kernel_rfl) (by kernel_rfl) (by kernel_rfl)) ?_
  intro W base args ds gs before hval0 hW hcnd hsz0 _
  have hval : ∀ (j : Nat) t v, Try.f4.params[j]? = some t → args[j]? = some v → Value.okWide Try.prog W .any base t v := hval0
  have hW' := hW
  obtain ⟨p, q, hA0, hV, rfl, hfz, hnd⟩ := hW
  have hA : DataW.TrodAll enc Try.prog W 0 (fun _ => true) true Try.f4.params.toList args.toList ds p := hA0
  rw [Try.params4] at hA hval
  obtain ⟨v0, vs0, d0, ds0, p0, q0, hargs, rfl, rfl, h0, r0⟩ := trodAll_cons hA
  obtain ⟨rfl, rfl, rfl⟩ := trodAll_nil r0
  obtain rfl : args = #[v0] := by cases args; simp_all
  obtain ⟨rfl, rfl⟩ := trodVars_none hV
  have lt0 : ∀ x ∈ p0, x.block < W.heap.size := by obtain ⟨m, hm⟩ := h0; exact DataW.trod_lt m _ _ _ hm
  obtain ⟨a0, cs0, rfl, hK0, g0⟩ := arg_struct Try.underlying24 (hval 0 24 v0 rfl rfl) h0 opens_k24
  obtain ⟨_, _, he0, rfl, ⟨_, _, rfl, rfl, ⟨_, _, rfl, rfl, ⟨_, _, rfl, rfl, rfl⟩⟩⟩⟩ := hK0
  obtain rfl : cs0 = #[.int .i64 a0.f0, .int .i64 a0.f1, .int .i64 a0.f2, .int .i64 a0.f3, .int .i64 a0.f4] := by cases cs0; simpa using he0
  clear hA0 hval0 hsz0
  have hp : laws_FnExactValidFrame.f a0.f0 a0.f1 a0.f2 a0.f3 a0.f4 = some true := Go.Proofs.Ytfmkbcmoibhffaa.Pure.FnExactValidFrame a0 g0
  refine (laws_FnExactValidFrame.calls a0.f0 a0.f1 a0.f2 a0.f3 a0.f4 true W hp).mono fun e W' hpost => ?_
  obtain ⟨he, hd⟩ := hpost
  subst he
  have bel : Below W.heap.size W W' := hd
  exact ⟨_, rfl, _, _, _, [], _, [], hW', trodAll_mk1 (shut_bool Try.underlying4 _), (trodAll_cons_mk (Below.trod laidOut (by kernel_rfl) (of_decide_eq_true (by kernel_rfl)) h0 bel lt0) trodAll_mk0), rfl, bel.frame _, fun h => by cases h⟩
theorem over : Rows.fnExactValidFrameRow.holds Try.pinned (OpenSpec.ofChange Rows.fnExactValidFrameSpec) :=
  OpenClaim.holds_of_wide 4 Try.f4 rfl rfl rfl rfl rfl rfl rfl ⟨rfl, rfl, rfl, rfl, rfl⟩ rfl rfl rfl rfl rfl (by kernel_rfl) Try.func4 (by kernel_rfl)
    (of_decide_eq_true (by kernel_rfl)) (by unfold Func.isWrapper; first | (rw [if_pos (by decide +kernel)]; kernel_rfl) | (rw [if_neg (by decide +kernel)]; exact ⟨rfl, rfl⟩))
    (fun os started H enc _ => lifted os started H enc)
theorem proved : Rows.FnExactValidFrameSaid := over
#print axioms proved
end Go.Proofs.Ytfmkbcmoibhffaa.fnExactValidFrame
namespace Go.Proofs.Ytfmkbcmoibhffaa
/-- The row, under a short name, for the claim. -/
theorem fnExactValidFrame_holds : Rows.FnExactValidFrameSaid := fnExactValidFrame.proved
end Go.Proofs.Ytfmkbcmoibhffaa
