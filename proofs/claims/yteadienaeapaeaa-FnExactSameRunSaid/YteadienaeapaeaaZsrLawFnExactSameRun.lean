/- The row of the law FnExactSameRun: for every input it returns true; the input reads as it did. -/
import Derived.Test.YteadienaeapaeaaRows
import Derived.Test.YteadienaeapaeaaZsrKindsFnExactSameRun
import Derived.Test.YteadienaeapaeaaZsrPureFnExactSameRun
import Derived.WalkKit
import Derived.ProofKit
import Derived.OpenShut
import Derived.ShutString
import Derived.ChangeOld
import Derived.Below
import Derived.SizedLaws
import Derived.Carry
namespace Go.Proofs.Yteadienaeapaeaa.fnExactSameRun
open Go.ChangeShapes Go.WideShapes Go.ChangeAt Go.RowKit Go.Proofs.YteadienaeapaeaaW.PrintWords Go.Proofs.Yteadienaeapaeaa.Open Go.Proofs.Yteadienaeapaeaa.PC
open Go.ChangeMaps (open_string shut_string)
set_option linter.unusedVariables false
theorem own : ownKnob Try.prog.godebug = none := by kernel_rfl
theorem laidOut : laidOutB Try.prog = true := by kernel_rfl
set_option maxRecDepth 100000 in
theorem lifted (os : Os) (started : os.Started) (H : Type) (enc : TypeId × Value → H) :
    ReturnsInHanded {} Try.checked os 4 .any (Rows.fnExactSameRunSpec.pre6 enc Try.prog Try.f4 Rows.fnExactSameRunRow.domain false) (Rows.fnExactSameRunSpec.post enc Try.prog Try.f4 false true false false) := by
  refine returnsInHanded_of_change_sized (C := Try.checked) own started (by kernel_rfl) Try.func4
    (ChangeSpec.witness6 (enc := enc) (C := Try.checked) false ⟨#[], #[.agg #[.slice none 0 0, .slice none 0 0], .agg #[.slice none 0 0, .slice none 0 0]], []⟩ 8 (by kernel_rfl) (by kernel_rfl) (by kernel_rfl) (by kernel_rfl)) ?_
  intro W base args ds gs before hval0 hW hcnd hsz0 _
  have hval : ∀ (j : Nat) t v, Try.f4.params[j]? = some t → args[j]? = some v → Value.okWide Try.prog W .any base t v := hval0
  have hW' := hW
  obtain ⟨p, q, hA0, hV, rfl, hfz, hnd⟩ := hW
  have hA : DataW.TrodAll enc Try.prog W 0 (fun _ => true) true Try.f4.params.toList args.toList ds p := hA0
  rw [Try.params4] at hA hval
  obtain ⟨v0, vs0, d0, ds0, p0, q0, hargs, rfl, rfl, h0, r0⟩ := trodAll_cons hA
  obtain ⟨v1, vs1, d1, ds1, p1, q1, rfl, rfl, rfl, h1, r1⟩ := trodAll_cons r0
  obtain ⟨rfl, rfl, rfl⟩ := trodAll_nil r1
  obtain rfl : args = #[v0, v1] := by cases args; simp_all
  obtain ⟨rfl, rfl⟩ := trodVars_none hV
  have lt0 : ∀ x ∈ p0, x.block < W.heap.size := by obtain ⟨m, hm⟩ := h0; exact DataW.trod_lt m _ _ _ hm
  obtain ⟨a0, cs0, rfl, hK0, g0⟩ := arg_struct Try.underlying37 (hval 0 37 v0 rfl rfl) h0 opens_k37
  obtain ⟨_, _, he0, ⟨A0_0, c0_0, rfl, hc0_0, hr0_0⟩, ⟨A0_1, c0_1, rfl, hc0_1, hr0_1⟩⟩ := hK0
  obtain rfl : cs0 = #[.slice A0_0 a0.f0.length c0_0, .slice A0_1 a0.f1.length c0_1] := by cases cs0; simpa using he0
  have lt1 : ∀ x ∈ p1, x.block < W.heap.size := by obtain ⟨m, hm⟩ := h1; exact DataW.trod_lt m _ _ _ hm
  obtain ⟨a1, cs1, rfl, hK1, g1⟩ := arg_struct Try.underlying37 (hval 1 37 v1 rfl rfl) h1 opens_k37
  obtain ⟨_, _, he1, ⟨A1_0, c1_0, rfl, hc1_0, hr1_0⟩, ⟨A1_1, c1_1, rfl, hc1_1, hr1_1⟩⟩ := hK1
  obtain rfl : cs1 = #[.slice A1_0 a1.f0.length c1_0, .slice A1_1 a1.f1.length c1_1] := by cases cs1; simpa using he1
  clear hA0 hval0 hsz0
  have hp : ∃ k, laws_FnExactSameRun.f k a0.f0 a0.f1 a1.f0 a1.f1 = some true := Go.Proofs.Yteadienaeapaeaa.Pure.FnExactSameRun a0 a1 g0 g1
  obtain ⟨k, hp⟩ := hp
  refine (laws_FnExactSameRun.calls k A0_0 c0_0 a0.f0 A0_1 c0_1 a0.f1 A1_0 c1_0 a1.f0 A1_1 c1_1 a1.f1 true W hr0_0 hc0_0 hr0_1 hc0_1 hr1_0 hc1_0 hr1_1 hc1_1 hp).mono fun e W' hpost => ?_
  obtain ⟨he, hd⟩ := hpost
  subst he
  have bel : Below W.heap.size W W' := hd
  exact ⟨_, rfl, _, _, _, [], _, [], hW', trodAll_mk1 (shut_bool Try.underlying4 _), (trodAll_cons_mk (Below.trod laidOut (by kernel_rfl) (of_decide_eq_true (by kernel_rfl)) h0 bel lt0) (trodAll_cons_mk (Below.trod laidOut (by kernel_rfl) (of_decide_eq_true (by kernel_rfl)) h1 bel lt1) trodAll_mk0)), rfl, bel.frame _, fun h => by cases h⟩
theorem over : Rows.fnExactSameRunRow.holds Try.pinned (OpenSpec.ofChange Rows.fnExactSameRunSpec) :=
  OpenClaim.holds_of_wide 4 Try.f4 rfl rfl rfl rfl rfl rfl rfl ⟨rfl, rfl, rfl, rfl, rfl⟩ rfl rfl rfl rfl rfl (by kernel_rfl) Try.func4 (by kernel_rfl)
    (of_decide_eq_true (by kernel_rfl)) (by unfold Func.isWrapper; first | (rw [if_pos (by decide +kernel)]; kernel_rfl) | (rw [if_neg (by decide +kernel)]; exact ⟨rfl, rfl⟩))
    (fun os started H enc _ => lifted os started H enc)
theorem proved : Rows.FnExactSameRunSaid := over
#print axioms proved
end Go.Proofs.Yteadienaeapaeaa.fnExactSameRun
namespace Go.Proofs.Yteadienaeapaeaa
/-- The row, under a short name, for the claim. -/
theorem fnExactSameRun_holds : Rows.FnExactSameRunSaid := fnExactSameRun.proved
end Go.Proofs.Yteadienaeapaeaa
