/- CheckStack of the program returns what CheckStack of the reference returns and leaves its argument alone, for all numbers of rows and columns and every list of numbers; lists that the statement passes over (more than 2^20) are passed over here, too. -/
import Derived.Test.YteadienaeapaeaaMapD
namespace Go.Proofs.Yteadienaeapaeaa.Pure
open Go Go.RowKit Go.Proofs.YteadienaeapaeaaW.PrintWords Go.Proofs.YteadienaeapaeaaW.PrintLast Go.Proofs.YteadienaeapaeaaW.PrintMore Go.Proofs.Yteadienaeapaeaa.Base Go.Proofs.Yteadienaeapaeaa.MapD Go.Proofs.Yteadienaeapaeaa.PD
theorem check_same (a b : Int) (l : List Int) (hl : l.length ≤ 1048576) : ∃ r, Ev (fun k => spec_CheckStack.f k a b l) r ∧ Ev (fun k => impl_CheckStack.f k a b l) r := by
  have bad : Ev (fun k => impl_CheckStack.j0 k a b l true) false := ev_one fun k => by simp [impl_CheckStack.j0]
  unfold spec_CheckStack.f impl_CheckStack.f spec_l26Stack.f impl_isStack.f
  by_cases hok : okMap a b = true
  · obtain ⟨a1, a2, b1, b2, hw, n1, n2⟩ := ok_tells hok
    have hlev := levels_eq (a * b) n1 n2 l
    have himp := impl_perm l hl (a * b)
    by_cases hp : (permB l && decide ((l.length : Int) = a * b)) = true
    · rw [if_pos hp] at hlev
      rw [hp] at himp
      simp only [Bool.and_eq_true, decide_eq_true_eq] at hp
      have hh := heights_eq l hl (permB_yes.1 hp.1)
      obtain ⟨r, c1, c2, _⟩ := cross_eq a b hok (place l.length l l.length) (by rw [place_len]; exact hp.2)
      refine ⟨!r.2, ev_use (ok_spec a b) (ev_pos hok ?_), ev_use (ok_impl a b) (ev_pos hok ?_)⟩
      · rw [hw]
        exact ev_bind (ev_bind hlev (ev_pos rfl (ev_bind c1 (ev_some _)))) (ev_some _)
      · rw [hw]
        refine ev_use (a := true) (by rw [himp]; rfl) ?_
        refine ev_step (f := fun k => (impl_crossing.f k a b l).bind fun bt311 => (some (!bt311.2))) ?_ (fun k => by simp [impl_CheckStack.j0])
        unfold impl_crossing.f
        exact ev_bind (ev_bind hh c2) (ev_some _)
    · rw [if_neg hp] at hlev
      rw [Bool.eq_false_iff.mpr hp] at himp
      refine ⟨false, ev_use (ok_spec a b) (ev_pos hok ?_), ev_use (ok_impl a b) (ev_pos hok ?_)⟩
      · rw [hw]
        exact ev_bind (ev_bind hlev (ev_neg (by simp) (ev_some _))) (ev_some _)
      · rw [hw]
        exact ev_use (a := false) (by rw [himp]; rfl) bad
  · exact ⟨false, ev_use (ok_spec a b) (ev_neg hok (ev_some _)), ev_use (ok_impl a b) (ev_neg hok bad)⟩
theorem FnExactCheckStack : laws_FnExactCheckStack.Pure := by
  intro a b l _ _ _ _ _
  refine Ev.rounds (g := fun k => laws_FnExactCheckStack.f k a b l) (r := true) ?_
  unfold laws_FnExactCheckStack.f
  by_cases hl : (l.length : Int) > 1048576
  · exact ev_pos hl (ev_some _)
  · have la : l.length ≤ 1048576 := by omega
    obtain ⟨r, q1, q2⟩ := check_same a b l la
    exact ev_neg hl (ev_bind (to_self l la) (ev_bind q1 (ev_bind (to_self l la) (ev_bind q2 (ev_neg (by simp) (ev_bind (to_self l la) (ev_bind (eq_self l la) (ev_pos rfl (ev_some _)))))))))
end Go.Proofs.Yteadienaeapaeaa.Pure
