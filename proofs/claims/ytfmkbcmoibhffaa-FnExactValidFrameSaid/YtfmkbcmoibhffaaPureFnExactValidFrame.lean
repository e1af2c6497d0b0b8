/- ValidFrame of the program returns what ValidFrame of the reference returns, for every frame of five int64 numbers; no condition. -/
import Derived.Test.YtfmkbcmoibhffaaKindsFnExactValidFrame
namespace Go.Proofs.Ytfmkbcmoibhffaa.Pure
open Go.RowKit Go.Proofs.Ytfmkbcmoibhffaa.PFnExactValidFrame Go.Proofs.YtfmkbcmoibhffaaW.PrintWords Go.Proofs.YtfmkbcmoibhffaaW.PrintLast

theorem FnExactValidFrame : FnExactValidFrame.Stat := by
  intro a _
  have e : ∀ x0 x1 x2 x3 x4, impl_ValidFrame.f x0 x1 x2 x3 x4 = spec_ValidFrame.f x0 x1 x2 x3 x4 := by
    intros
    unfold impl_ValidFrame.f spec_ValidFrame.f spec_l29Ok.f impl_isScale.f impl_within.f spec_l00In.f
    simp
  have s : ∀ x0 x1 x2 x3 x4, ∃ r, spec_ValidFrame.f x0 x1 x2 x3 x4 = some r := by
    intros
    unfold spec_ValidFrame.f spec_l29Ok.f spec_l00In.f
    repeat' (first | exact ⟨_, rfl⟩ | (simp only [Option.bind_some]) | split)
  obtain ⟨r, s⟩ := s a.f0 a.f1 a.f2 a.f3 a.f4
  unfold laws_FnExactValidFrame.f laws_toFrame.f
  simp only [Option.bind_some]
  rw [e, s]; simp

end Go.Proofs.Ytfmkbcmoibhffaa.Pure
