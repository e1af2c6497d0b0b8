/- Lists of steps: the statements' own helpers, and which lists are programs. -/
import Derived.Test.YteadienaeapaeaaDoorZprStepW
import Derived.Test.YteadienaeapaeaaDoorZprPWx3
import Derived.Test.YteadienaeapaeaaDoorZprPWx4
import Derived.Test.YteadienaeapaeaaDoorZprPWx7
import Derived.Test.YteadienaeapaeaaDoorZprPWx11
namespace Go.Proofs.YteadienaeapaeaaDoor.ProgW
open Go Go.RowKit Go.Proofs.YteadienaeapaeaaDoorW.PrintWords Go.Proofs.YteadienaeapaeaaDoorW.PrintLast Go.Proofs.YteadienaeapaeaaDoorW.PrintMore Go.Proofs.YteadienaeapaeaaDoor.Base Go.Proofs.YteadienaeapaeaaDoor.NameW Go.Proofs.YteadienaeapaeaaDoor.StepW Go.Proofs.YteadienaeapaeaaDoor.PW
def okStep (x : S34) : Bool := stepB x.f0 x.f1 x.f2.f0 x.f2.f1.f0 x.f2.f1.f1 x.f2.f1.f2 x.f3 x.f4 x.f5
theorem rd34 (l : List S34) (i : Nat) (hi : i < l.length) : rd_T34 l (i : Int) = l[i] := by
  unfold rd_T34
  simp [List.getD_eq_getElem?_getD, List.getElem?_eq_getElem hi]
/-- Names that are short enough for any machine. -/
def Names (l : List S34) : Prop := ∀ y ∈ l, y.f1.size ≤ 9223372036854775807
def progB (l : List S34) : Bool := l.all okStep && decide (l.length ≤ 30)
theorem impl_loop (l : List S34) (hl : l.length ≤ 1000) (hn : Names l) (d : Nat) : ∀ (i : Nat), i + d = l.length → ∃ r, Ev (fun k => impl_Step_impl_ValidProgram_1_95.l0 k l (l.length : Int) (i : Int)) r ∧ (r < 0 ↔ (l.drop i).all okStep = true) := by
  induction d with
  | zero =>
    intro i hd
    refine ⟨-1, ev_one fun k => ?_, by simp [List.drop_of_length_le (show l.length ≤ i by omega)]⟩
    simp only [impl_Step_impl_ValidProgram_1_95.l0]
    rw [if_neg (by omega)]
  | succ d ih =>
    intro i hd
    have hi : i < l.length := by omega
    have hs := step_impl l[i].f0 l[i].f1 (hn _ (List.getElem_mem hi)) l[i].f2.f0 l[i].f2.f1.f0 l[i].f2.f1.f1 l[i].f2.f1.f2 l[i].f3 l[i].f4 l[i].f5
    have hs2 : Ev (fun k => impl_ValidProgram_1.f k l[i].f0 l[i].f1 l[i].f2.f0 l[i].f2.f1.f0 l[i].f2.f1.f1 l[i].f2.f1.f2 l[i].f3 l[i].f4 l[i].f5) (!okStep l[i]) := ev_bind hs (ev_some _)
    rw [List.drop_eq_getElem_cons hi, List.all_cons]
    have unf : ∀ k, impl_Step_impl_ValidProgram_1_95.l0 (k + 1) l (l.length : Int) (i : Int) = (impl_ValidProgram_1.f k l[i].f0 l[i].f1 l[i].f2.f0 l[i].f2.f1.f0 l[i].f2.f1.f1 l[i].f2.f1.f2 l[i].f3 l[i].f4 l[i].f5).bind fun t206 => (if t206 = true then (some (i : Int)) else (impl_Step_impl_ValidProgram_1_95.l0 k l (l.length : Int) ((i + 1 : Nat) : Int))) := fun k => by
      simp only [impl_Step_impl_ValidProgram_1_95.l0]
      rw [if_pos (by omega), if_pos (by omega), if_pos (by omega), rd34 l i hi, w64s hi (by omega)]
    cases hok : okStep l[i] with
    | true =>
      rw [hok] at hs2
      obtain ⟨r, h, hiff⟩ := ih (i + 1) (by omega)
      exact ⟨r, ev_step (ev_bind hs2 (ev_neg (by simp) h)) unf, by rw [Bool.true_and]; exact hiff⟩
    | false =>
      rw [hok] at hs2
      exact ⟨i, ev_step (ev_bind hs2 (ev_pos rfl (ev_some _))) unf, by rw [Bool.false_and]; exact ⟨fun h => by omega, fun h => by cases h⟩⟩
theorem prog_impl (l : List S34) (hn : Names l) : Ev (fun k => impl_ValidProgram.f k l) (progB l) := by
  unfold impl_ValidProgram.f progB impl_Step_impl_ValidProgram_1_56.f impl_Step_impl_ValidProgram_1_95.f
  by_cases hl : (l.length : Int) ≤ 30
  · obtain ⟨r, h, hiff⟩ := impl_loop l (by omega) hn l.length 0 (by omega)
    rw [List.drop_zero] at hiff
    have hr : (!decide (r ≥ 0)) = l.all okStep := by
      rw [Bool.eq_iff_iff, ← hiff]; simp
    rw [decide_eq_true (show l.length ≤ 30 by omega), Bool.and_true, ← hr]
    exact ev_pos hl (ev_bind (ev_bind h (ev_some _)) (ev_some _))
  · rw [decide_eq_false (show ¬ l.length ≤ 30 by omega), Bool.and_false]
    exact ev_neg hl (ev_some _)
end Go.Proofs.YteadienaeapaeaaDoor.ProgW
