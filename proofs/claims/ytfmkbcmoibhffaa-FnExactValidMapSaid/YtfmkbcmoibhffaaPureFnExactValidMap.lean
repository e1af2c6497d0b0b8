/- ValidMap of the program returns what ValidMap of the reference returns, for every two int64 numbers of rows and columns; no condition. -/
import Derived.Test.YtfmkbcmoibhffaaPFnExactValidMapx1
namespace Go.Proofs.Ytfmkbcmoibhffaa.Pure
open Go.RowKit Go.Proofs.Ytfmkbcmoibhffaa.PFnExactValidMap Go.Proofs.YtfmkbcmoibhffaaW.PrintWords Go.Proofs.YtfmkbcmoibhffaaW.PrintLast

theorem FnExactValidMap : laws_FnExactValidMap.Pure := by
  intro a b _ _
  have e : impl_ValidMap.f a b = spec_ValidMap.f a b := by
    unfold impl_ValidMap.f spec_ValidMap.f spec_l26Ok.f impl_within.f spec_l00In.f
    simp
  have s : ∃ r, spec_ValidMap.f a b = some r := by
    unfold spec_ValidMap.f spec_l26Ok.f spec_l00In.f
    repeat' (first | exact ⟨_, rfl⟩ | (simp only [Option.bind_some]) | split)
  obtain ⟨r, s⟩ := s
  unfold laws_FnExactValidMap.f
  rw [e, s]; simp

end Go.Proofs.Ytfmkbcmoibhffaa.Pure
