/- Lists of steps: the statements' own helpers, and which lists are programs. -/
import Derived.Test.YteadienaeapaeaaDoorZnoStepY
import Derived.Test.YteadienaeapaeaaDoorZnoPYx3
import Derived.Test.YteadienaeapaeaaDoorZnoPYx4
import Derived.Test.YteadienaeapaeaaDoorZnoPYx12
import Derived.Test.YteadienaeapaeaaDoorZnoPYx8
namespace Go.Proofs.YteadienaeapaeaaDoor.ProgY
open Go Go.RowKit Go.Proofs.YteadienaeapaeaaDoorW.PrintWords Go.Proofs.YteadienaeapaeaaDoorW.PrintLast Go.Proofs.YteadienaeapaeaaDoorW.PrintMore Go.Proofs.YteadienaeapaeaaDoor.Base Go.Proofs.YteadienaeapaeaaDoor.NameY Go.Proofs.YteadienaeapaeaaDoor.StepY Go.Proofs.YteadienaeapaeaaDoor.PY
def conv (x : S27) : S34 := ⟨x.f0, x.f1, ⟨x.f2.f0, ⟨x.f2.f1.f0, x.f2.f1.f1, x.f2.f1.f2⟩⟩, x.f3, x.f4, x.f5⟩
def okStep (x : S34) : Bool := stepB x.f0 x.f1 x.f2.f0 x.f2.f1.f0 x.f2.f1.f1 x.f2.f1.f2 x.f3 x.f4 x.f5
theorem rd27 (l : List S27) (i : Nat) (hi : i < l.length) : rd_T27 l (i : Int) = l[i] := by
  unfold rd_T27
  simp [List.getD_eq_getElem?_getD, List.getElem?_eq_getElem hi]
theorem rd34 (l : List S34) (i : Nat) (hi : i < l.length) : rd_T34 l (i : Int) = l[i] := by
  unfold rd_T34
  simp [List.getD_eq_getElem?_getD, List.getElem?_eq_getElem hi]
theorem to_loop (l : List S27) (hl : l.length ≤ 9223372036854775807) (d : Nat) : ∀ (i : Nat) (x : List S34), i + d = l.length → x = (l.map conv).take i ++ List.replicate (l.length - i) z34 → Ev (fun k => laws_toStepS.l0 k l x (i : Int)) (l.map conv) := by
  induction d with
  | zero =>
    intro i x hd hx
    refine ev_one fun k => ?_
    simp only [laws_toStepS.l0]
    rw [if_neg (by omega), hx, show l.length - i = 0 by omega, List.take_of_length_le (by simp; omega)]
    simp
  | succ d ih =>
    intro i x hd hx
    have hi : i < l.length := by omega
    have hxl : x.length = l.length := by rw [hx]; simp; omega
    refine ev_step (ih (i + 1) (x.set i (conv l[i])) (by omega) (by
      have := set_at (l.map conv) i (conv l[i]) z34 x (by simpa using hi) (by rw [hx]; simp) (by simp)
      simpa using this)) fun k => ?_
    simp only [laws_toStepS.l0]
    rw [if_pos (by omega), if_pos (by omega), rd27 l i hi]
    unfold laws_toStep.f laws_toLine.f laws_toNum.f
    simp only [Option.bind_some]
    rw [if_pos (by omega), w64s hi hl]
    rfl
theorem to_conv (l : List S27) (hl : l.length ≤ 1048576) : Ev (fun k => laws_toStepS.f k l) (l.map conv) := by
  unfold laws_toStepS.f
  refine ev_pos (by omega) (ev_pos (by omega) ?_)
  exact to_loop l (by omega) l.length 0 _ (by omega) (by simp)
theorem eq_loop (l : List S34) (hl : l.length ≤ 9223372036854775807) (d : Nat) : ∀ (i : Nat), i + d = l.length → Ev (fun k => laws_eqStepS.l0 k l l (i : Int)) true := by
  induction d with
  | zero =>
    intro i hd
    refine ev_one fun k => ?_
    simp only [laws_eqStepS.l0]
    rw [if_neg (by omega)]
  | succ d ih =>
    intro i hd
    have hi : i < l.length := by omega
    refine ev_step (ih (i + 1) (by omega)) fun k => ?_
    simp only [laws_eqStepS.l0, laws_eqStep.f, laws_eqLine.f, laws_eqNum.f]
    rw [if_pos (by omega), if_pos (by omega), if_pos (by omega), w64s hi hl]
    simp
theorem eq_self (l : List S34) (hl : l.length ≤ 1048576) : Ev (fun k => laws_eqStepS.f k l l) true := by
  unfold laws_eqStepS.f
  exact ev_pos rfl (eq_loop l (by omega) l.length 0 (by omega))
/-- Names that are short enough for any machine. -/
def Names (l : List S34) : Prop := ∀ y ∈ l, y.f1.size ≤ 9223372036854775807
theorem spec_loop (l : List S34) (hl : l.length ≤ 9223372036854775807) (hn : Names l) (d : Nat) : ∀ (i : Nat), i + d = l.length → Ev (fun k => spec_l27Program.l0 k l (i : Int)) ((l.drop i).all okStep && decide (l.length ≤ 30)) := by
  induction d with
  | zero =>
    intro i hd
    refine ev_one fun k => ?_
    simp only [spec_l27Program.l0]
    rw [if_neg (by omega), List.drop_of_length_le (by omega)]
    congr 1
    rw [Bool.eq_iff_iff]; simp
    omega
  | succ d ih =>
    intro i hd
    have hi : i < l.length := by omega
    have hs := step_spec l[i].f0 l[i].f1 (hn _ (List.getElem_mem hi)) l[i].f2.f0 l[i].f2.f1.f0 l[i].f2.f1.f1 l[i].f2.f1.f2 l[i].f3 l[i].f4 l[i].f5
    have hs2 : Ev (fun k => spec_l27Ok.f k l[i].f0 l[i].f1 l[i].f2.f0 l[i].f2.f1.f0 l[i].f2.f1.f1 l[i].f2.f1.f2 l[i].f3 l[i].f4 l[i].f5) (okStep l[i]) := hs
    rw [List.drop_eq_getElem_cons hi, List.all_cons]
    refine ev_step (f := fun k => (spec_l27Ok.f k l[i].f0 l[i].f1 l[i].f2.f0 l[i].f2.f1.f0 l[i].f2.f1.f1 l[i].f2.f1.f2 l[i].f3 l[i].f4 l[i].f5).bind fun t187 => (if t187 = true then (spec_l27Program.l0 k l ((i + 1 : Nat) : Int)) else (some false))) (ev_bind hs2 ?_) fun k => ?_
    · cases okStep l[i]
      · rw [Bool.false_and, Bool.false_and]; exact ev_neg (by simp) (ev_some _)
      · rw [Bool.true_and]; exact ev_pos rfl (ih (i + 1) (by omega))
    · simp only [spec_l27Program.l0]
      rw [if_pos (by omega), if_pos (by omega), rd34 l i hi, w64s hi hl]
def progB (l : List S34) : Bool := l.all okStep && decide (l.length ≤ 30)
theorem prog_spec (l : List S34) (hl : l.length ≤ 1048576) (hn : Names l) : Ev (fun k => spec_l27Program.f k l) (progB l) := by
  unfold spec_l27Program.f progB
  have := spec_loop l (by omega) hn l.length 0 (by omega)
  rw [List.drop_zero] at this
  exact this
theorem impl_loop (l : List S34) (hl : l.length ≤ 1000) (hn : Names l) (d : Nat) : ∀ (i : Nat), i + d = l.length → ∃ r, Ev (fun k => impl_Step_impl_ValidProgram_1_95.l0 k l (l.length : Int) (i : Int)) r ∧ (r < 0 ↔ (l.drop i).all okStep = true) := by
  induction d with
  | zero =>
    intro i hd
    refine ⟨-1, ev_one fun k => ?_, by simp [List.drop_of_length_le (show l.length ≤ i by omega)]⟩
    simp only [impl_Step_impl_ValidProgram_1_95.l0]
    rw [if_neg (by omega)]
  | succ d ih =>
    intro i hd
    have hi : i < l.length := by omega
    have hs := step_impl l[i].f0 l[i].f1 (hn _ (List.getElem_mem hi)) l[i].f2.f0 l[i].f2.f1.f0 l[i].f2.f1.f1 l[i].f2.f1.f2 l[i].f3 l[i].f4 l[i].f5
    have hs2 : Ev (fun k => impl_ValidProgram_1.f k l[i].f0 l[i].f1 l[i].f2.f0 l[i].f2.f1.f0 l[i].f2.f1.f1 l[i].f2.f1.f2 l[i].f3 l[i].f4 l[i].f5) (!okStep l[i]) := ev_bind hs (ev_some _)
    rw [List.drop_eq_getElem_cons hi, List.all_cons]
    have unf : ∀ k, impl_Step_impl_ValidProgram_1_95.l0 (k + 1) l (l.length : Int) (i : Int) = (impl_ValidProgram_1.f k l[i].f0 l[i].f1 l[i].f2.f0 l[i].f2.f1.f0 l[i].f2.f1.f1 l[i].f2.f1.f2 l[i].f3 l[i].f4 l[i].f5).bind fun t206 => (if t206 = true then (some (i : Int)) else (impl_Step_impl_ValidProgram_1_95.l0 k l (l.length : Int) ((i + 1 : Nat) : Int))) := fun k => by
      simp only [impl_Step_impl_ValidProgram_1_95.l0]
      rw [if_pos (by omega), if_pos (by omega), if_pos (by omega), rd34 l i hi, w64s hi (by omega)]
    cases hok : okStep l[i] with
    | true =>
      rw [hok] at hs2
      obtain ⟨r, h, hiff⟩ := ih (i + 1) (by omega)
      exact ⟨r, ev_step (ev_bind hs2 (ev_neg (by simp) h)) unf, by rw [Bool.true_and]; exact hiff⟩
    | false =>
      rw [hok] at hs2
      exact ⟨i, ev_step (ev_bind hs2 (ev_pos rfl (ev_some _))) unf, by rw [Bool.false_and]; exact ⟨fun h => by omega, fun h => by cases h⟩⟩
theorem prog_impl (l : List S34) (hn : Names l) : Ev (fun k => impl_ValidProgram.f k l) (progB l) := by
  unfold impl_ValidProgram.f progB impl_Step_impl_ValidProgram_1_56.f impl_Step_impl_ValidProgram_1_95.f
  by_cases hl : (l.length : Int) ≤ 30
  · obtain ⟨r, h, hiff⟩ := impl_loop l (by omega) hn l.length 0 (by omega)
    rw [List.drop_zero] at hiff
    have hr : (!decide (r ≥ 0)) = l.all okStep := by
      rw [Bool.eq_iff_iff, ← hiff]; simp
    rw [decide_eq_true (show l.length ≤ 30 by omega), Bool.and_true, ← hr]
    exact ev_pos hl (ev_bind (ev_bind h (ev_some _)) (ev_some _))
  · rw [decide_eq_false (show ¬ l.length ≤ 30 by omega), Bool.and_false]
    exact ev_neg hl (ev_some _)
theorem sz_loop (l : List S27) (hl : l.length ≤ 9223372036854775807) (hs : ∀ y ∈ l, y.f1.size ≤ 9223372036854775807) (d : Nat) : ∀ (i : Nat) (a : Int), i + d = l.length → 0 ≤ a → a ≤ 1048576 →
    ∃ r, Ev (fun k => laws_szStepS.l0 k l a (i : Int)) r := by
  induction d with
  | zero =>
    intro i a hd h0 h1
    refine ⟨a, ev_one fun k => ?_⟩
    simp only [laws_szStepS.l0]
    rw [if_neg (by omega)]
  | succ d ih =>
    intro i a hd h0 h1
    have hi : i < l.length := by omega
    have hsz := hs _ (List.getElem_mem hi)
    have hw : wrap64 (a - (l[i].f1.size : Int)) = a - (l[i].f1.size : Int) := w64 (by omega) (by omega)
    by_cases hn : a - (l[i].f1.size : Int) < 0
    · refine ⟨-1, ev_one fun k => ?_⟩
      simp only [laws_szStepS.l0, laws_szStep.f]
      rw [if_pos (by omega), if_pos (by omega), rd27 l i hi, hw, if_pos hn]
      rfl
    · obtain ⟨r, hr⟩ := ih (i + 1) (a - (l[i].f1.size : Int)) (by omega) (by omega) (by omega)
      refine ⟨r, ev_step hr fun k => ?_⟩
      simp only [laws_szStepS.l0, laws_szStep.f]
      rw [if_pos (by omega), if_pos (by omega), rd27 l i hi, hw, if_neg hn]
      simp only [Option.bind_some]
      rw [if_neg hn, w64s hi hl]
theorem sz_tells (l : List S27) (hl : l.length ≤ 9223372036854775807) (hs : ∀ y ∈ l, y.f1.size ≤ 9223372036854775807) :
    ∃ r, Ev (fun k => laws_szStepS.f k l 1048576) r ∧ (0 ≤ r → l.length ≤ 1048576) := by
  unfold laws_szStepS.f
  have hw : wrap64 (1048576 - (l.length : Int)) = 1048576 - (l.length : Int) := w64 (by omega) (by omega)
  rw [hw]
  by_cases hn : 1048576 - (l.length : Int) < 0
  · exact ⟨-1, ev_pos hn (ev_some _), by omega⟩
  · obtain ⟨r, hr⟩ := sz_loop l hl hs l.length 0 (1048576 - (l.length : Int)) (by omega) (by omega) (by omega)
    exact ⟨r, ev_neg hn hr, by omega⟩
theorem names_conv (l : List S27) (hs : ∀ y ∈ l, y.f1.size ≤ 9223372036854775807) : Names (l.map conv) := by
  intro y hy
  obtain ⟨x, hx, rfl⟩ := List.mem_map.1 hy
  exact hs x hx
end Go.Proofs.YteadienaeapaeaaDoor.ProgY
