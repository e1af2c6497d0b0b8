/- The row of the law FnExactRimOf: for every input it returns true; the input reads as it did. -/
import Derived.Test.YtfmkbcmoibhffaaRows
import Derived.Test.YtfmkbcmoibhffaaKindsFnExactRimOf
import Derived.Test.YtfmkbcmoibhffaaPureFnExactRimOf
import Derived.WalkKit
import Derived.ProofKit
import Derived.OpenShut
import Derived.ShutString
import Derived.ChangeOld
import Derived.Below
import Derived.SizedLaws
import Derived.Carry
namespace Go.Proofs.Ytfmkbcmoibhffaa.fnExactRimOf
open Go.ChangeShapes Go.WideShapes Go.ChangeAt Go.RowKit Go.Proofs.YtfmkbcmoibhffaaW.PrintWords Go.Proofs.Ytfmkbcmoibhffaa.Open Go.Proofs.Ytfmkbcmoibhffaa.PR
open Go.ChangeMaps (open_string shut_string)
set_option linter.unusedVariables false
theorem own : ownKnob Try.prog.godebug = none := by kernel_rfl
theorem laidOut : laidOutB Try.prog = true := by kernel_rfl
set_option maxRecDepth 100000 in
theorem lifted (os : Os) (started : os.Started) (H : Type) (enc : TypeId × Value → H) :
    ReturnsInHanded {} Try.checked os 8 .any (Rows.fnExactRimOfSpec.pre6 enc Try.prog Try.f8 Rows.fnExactRimOfRow.domain false) (Rows.fnExactRimOfSpec.post enc Try.prog Try.f8 false true false false) := by
  refine returnsInHanded_of_change_sized (C := Try.checked) own started (by kernel_rfl) Try.func8
    (ChangeSpec.witness6 (enc := enc) (C := Try.checked) false ⟨#[], #[.slice none 0 0], []⟩ 8 (by kernel_rfl) (by kernel_rfl) (by kernel_rfl) (by kernel_rfl)) ?_
  intro W base args ds gs before hval0 hW hcnd hsz0 _
  have hval : ∀ (j : Nat) t v, Try.f8.params[j]? = some t → args[j]? = some v → Value.okWide Try.prog W .any base t v := hval0
  have hW' := hW
  obtain ⟨p, q, hA0, hV, rfl, hfz, hnd⟩ := hW
  have hA : DataW.TrodAll enc Try.prog W 0 (fun _ => true) true Try.f8.params.toList args.toList ds p := hA0
  rw [Try.params8] at hA hval
  obtain ⟨v0, vs0, d0, ds0, p0, q0, hargs, rfl, rfl, h0, r0⟩ := trodAll_cons hA
  obtain ⟨rfl, rfl, rfl⟩ := trodAll_nil r0
  obtain rfl : args = #[v0] := by cases args; simp_all
  obtain ⟨rfl, rfl⟩ := trodVars_none hV
  have lt0 : ∀ x ∈ p0, x.block < W.heap.size := by obtain ⟨m, hm⟩ := h0; exact DataW.trod_lt m _ _ _ hm
  obtain ⟨A0, c0, l0, rfl, hc0, hr0, g0⟩ := arg_slice Try.underlying37 (hval 0 37 v0 rfl rfl) h0 (opens_slice Try.underlying37 (by kernel_rfl) (opens_string Try.underlying9))
  clear hA0 hval0 hsz0
  have hp : ∃ k, laws_FnExactRimOf.f k l0 = some true := Go.Proofs.Ytfmkbcmoibhffaa.Pure.FnExactRimOf l0 g0
  obtain ⟨k, hp⟩ := hp
  refine (laws_FnExactRimOf.calls k A0 c0 l0 true W hr0 hc0 hp).mono fun e W' hpost => ?_
  obtain ⟨he, hd⟩ := hpost
  subst he
  have bel : Below W.heap.size W W' := hd
  exact ⟨_, rfl, _, _, _, [], _, [], hW', trodAll_mk1 (shut_bool Try.underlying4 _), (trodAll_cons_mk (Below.trod laidOut (by kernel_rfl) (of_decide_eq_true (by kernel_rfl)) h0 bel lt0) trodAll_mk0), rfl, bel.frame _, fun h => by cases h⟩
theorem over : Rows.fnExactRimOfRow.holds Try.pinned (OpenSpec.ofChange Rows.fnExactRimOfSpec) :=
  OpenClaim.holds_of_wide 8 Try.f8 rfl rfl rfl rfl rfl rfl rfl ⟨rfl, rfl, rfl, rfl, rfl⟩ rfl rfl rfl rfl rfl (by kernel_rfl) Try.func8 (by kernel_rfl)
    (of_decide_eq_true (by kernel_rfl)) (by unfold Func.isWrapper; first | (rw [if_pos (by decide +kernel)]; kernel_rfl) | (rw [if_neg (by decide +kernel)]; exact ⟨rfl, rfl⟩))
    (fun os started H enc _ => lifted os started H enc)
theorem proved : Rows.FnExactRimOfSaid := over
#print axioms proved
end Go.Proofs.Ytfmkbcmoibhffaa.fnExactRimOf
namespace Go.Proofs.Ytfmkbcmoibhffaa
/-- The row, under a short name, for the claim. -/
theorem fnExactRimOf_holds : Rows.FnExactRimOfSaid := fnExactRimOf.proved
end Go.Proofs.Ytfmkbcmoibhffaa
