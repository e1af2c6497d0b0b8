/- RimOf of the program returns what RimOf of the reference returns, leaves its argument alone, and its result is memory of its own. -/
import Derived.Test.YtfmkbcmoibhffaaKindsFnExactRimOf
import Derived.Test.YtfmkbcmoibhffaaStrR
import Derived.Test.YtfmkbcmoibhffaaGridR
import Derived.Test.YtfmkbcmoibhffaaMarkR
import Derived.Test.YtfmkbcmoibhffaaRimR
namespace Go.Proofs.Ytfmkbcmoibhffaa.Pure
open Go Go.RowKit Go.Proofs.YtfmkbcmoibhffaaW.PrintWords Go.Proofs.YtfmkbcmoibhffaaW.PrintLast Go.Proofs.YtfmkbcmoibhffaaW.PrintMore Go.Proofs.Ytfmkbcmoibhffaa.Base Go.Proofs.Ytfmkbcmoibhffaa.StrR Go.Proofs.Ytfmkbcmoibhffaa.GridR Go.Proofs.Ytfmkbcmoibhffaa.MarkR Go.Proofs.Ytfmkbcmoibhffaa.RimR Go.Proofs.Ytfmkbcmoibhffaa.PR
theorem FnExactRimOf : FnExactRimOf.Stat := by
  intro a ha
  refine Ev.rounds (g := fun k => laws_FnExactRimOf.f k a) (r := true) ?_
  unfold laws_FnExactRimOf.f
  obtain ⟨r1, e1, l1, s1⟩ := sz_tells a ha.1 ha.2 1048576 (by omega) (by omega)
  refine ev_bind e1 ?_
  by_cases h1 : r1 < 0
  · exact ev_pos h1 (ev_some _)
  · have la := s1 (by omega)
    have lr := rimB_len a
    have q1 := spec_rim a
    have q2 := impl_rim a
    refine ev_neg h1 (ev_bind (to_self a la) (ev_bind q1 (ev_bind (to_self a la) (ev_bind q2 (ev_bind (eq_self _ (by omega)) (ev_pos rfl (ev_bind (to_self a la) (ev_bind (eq_self a la) (ev_pos rfl (ev_bind (mark_tells 1 a (by omega) (by omega)) (ev_neg (by first | omega | (dsimp only; omega)) (ev_bind (eq_self _ (by omega)) ?_))))))))))))
    refine ev_step (f := fun k => (laws_markStringS.f k (rimB a) 1).bind fun bt178 => ((laws_heldStringS.f k bt178.2 1).bind fun t180 => (if t180 < 0 then (some false) else (if t180 = bt178.1 then ((laws_toStringS.f k a).bind fun t181 => ((impl_RimOf.f k t181).bind fun t184 => ((laws_eqStringS.f k t184 (rimB a)).bind fun t187 => (if t187 = true then ((laws_heldStringS.f k bt178.2 1).bind fun t188 => (if t188 < 0 then (some false) else (if t188 = bt178.1 then (some true) else (some false)))) else (some false))))) else (some false))))) ?_ (fun k => by simp only [laws_FnExactRimOf.j0]; rw [if_neg (by simp)])
    refine ev_bind (mark_tells 1 (rimB a) (by omega) (by omega)) (ev_bind (held_tells 1 _ (by omega) (by omega)) (ev_neg (by first | omega | (dsimp only; omega)) (ev_pos rfl (ev_bind (to_self a la) (ev_bind q2 (ev_bind (eq_self _ (by omega)) (ev_pos rfl (ev_bind (held_tells 1 _ (by omega) (by omega)) (ev_neg (by first | omega | (dsimp only; omega)) (ev_pos rfl (ev_some _)))))))))))
end Go.Proofs.Ytfmkbcmoibhffaa.Pure
