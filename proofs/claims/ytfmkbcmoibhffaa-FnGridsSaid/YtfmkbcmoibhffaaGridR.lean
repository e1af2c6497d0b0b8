/- When is a list of strings a grid: the program's test and the reference's test say the same. -/
import Derived.Test.YtfmkbcmoibhffaaBase
import Derived.Test.YtfmkbcmoibhffaaPRx1
import Derived.Test.YtfmkbcmoibhffaaPRx3
namespace Go.Proofs.Ytfmkbcmoibhffaa.GridR
open Go Go.RowKit Go.Proofs.YtfmkbcmoibhffaaW.PrintWords Go.Proofs.YtfmkbcmoibhffaaW.PrintLast Go.Proofs.YtfmkbcmoibhffaaW.PrintMore Go.Proofs.Ytfmkbcmoibhffaa.Base Go.Proofs.Ytfmkbcmoibhffaa.PR
theorem in_eq (a b c : Int) : spec_l00In.f a b c = some (decide (b ≤ a) && decide (a ≤ c)) := by
  unfold spec_l00In.f
  by_cases h : a ≥ b
  · rw [if_pos h]; simp [h]
  · rw [if_neg h]; simp [h]
theorem within_eq (a b c : Int) : impl_within.f a b c = some (decide (b ≤ a) && decide (a ≤ c)) := in_eq a b c
/-- Are these lines of one length, from 1 to 32, and how many are there. -/
def Grid (l : List ByteArray) : Prop := 1 ≤ l.length ∧ l.length ≤ 32 ∧ ∀ (h : 0 < l.length), 1 ≤ l[0].size ∧ l[0].size ≤ 32 ∧ ∀ y ∈ l, y.size = l[0].size
noncomputable def gridB (l : List ByteArray) : Bool := @decide (Grid l) (Classical.propDecidable _)
theorem gridB_yes {l : List ByteArray} : gridB l = true ↔ Grid l := by unfold gridB; simp
theorem j1_yes (l : List ByteArray) (i : Int) : Ev (fun k => spec_l29Grid.j1 k l i true) false := ev_one fun k => by simp [spec_l29Grid.j1]
theorem j1_no (l : List ByteArray) (i : Nat) (r : Bool) (hi : i < l.length) (h1 : l.length ≤ 32) (h : Ev (fun k => spec_l29Grid.l0 k l ((i + 1 : Nat) : Int)) r) : Ev (fun k => spec_l29Grid.j1 k l (i : Int) false) r := ev_step h fun k => by
  simp only [spec_l29Grid.j1]
  rw [if_neg (by simp), w64s hi (by omega)]
theorem spec_loop (l : List ByteArray) (h0 : 0 < l.length) (h1 : l.length ≤ 32) (d : Nat) : ∀ (i : Nat), i + d = l.length →
    ∃ r, Ev (fun k => spec_l29Grid.l0 k l (i : Int)) r ∧ (r = true ↔ ∀ y ∈ l.drop i, 1 ≤ y.size ∧ y.size ≤ 32 ∧ y.size = l[0].size) := by
  induction d with
  | zero =>
    intro i hd
    refine ⟨true, ev_one fun k => ?_, by simp [List.drop_of_length_le (show l.length ≤ i by omega)]⟩
    simp only [spec_l29Grid.l0]
    rw [if_neg (by omega)]
  | succ d ih =>
    intro i hd
    have hi : i < l.length := by omega
    have hdrop : l.drop i = l[i] :: l.drop (i + 1) := List.drop_eq_getElem_cons hi
    have e0 : rdOf ByteArray.empty l 0 = l[0] := rdOf_at _ l 0 h0
    by_cases hA : 1 ≤ l[i].size ∧ l[i].size ≤ 32
    · by_cases hB : l[i].size = l[0].size
      · obtain ⟨r, hr, hiff⟩ := ih (i + 1) (by omega)
        refine ⟨r, ev_step (j1_no l i r hi h1 hr) fun k => ?_, ?_⟩
        · simp only [spec_l29Grid.l0]
          rw [if_pos (by omega), if_pos (by omega), rdOf_at _ l i hi, e0, in_eq]
          simp only [Option.bind_some]
          rw [if_pos (by simp; omega), if_pos (by omega), show ((l[i].size : Int) != (l[0].size : Int)) = false by simp; omega]
        · rw [hdrop, List.forall_mem_cons, hiff]
          exact ⟨fun h => ⟨⟨hA.1, hA.2, hB⟩, h⟩, fun h => h.2⟩
      · refine ⟨false, ev_step (j1_yes l i) fun k => ?_, ?_⟩
        · simp only [spec_l29Grid.l0]
          rw [if_pos (by omega), if_pos (by omega), rdOf_at _ l i hi, e0, in_eq]
          simp only [Option.bind_some]
          rw [if_pos (by simp; omega), if_pos (by omega), show ((l[i].size : Int) != (l[0].size : Int)) = true by simp; omega]
        · rw [hdrop, List.forall_mem_cons]
          exact ⟨fun h => by simp at h, fun h => absurd h.1.2.2 hB⟩
    · refine ⟨false, ev_step (j1_yes l i) fun k => ?_, ?_⟩
      · simp only [spec_l29Grid.l0]
        rw [if_pos (by omega), if_pos (by omega), rdOf_at _ l i hi, in_eq]
        simp only [Option.bind_some]
        rw [if_neg (by simp; omega)]
      · rw [hdrop, List.forall_mem_cons]
        exact ⟨fun h => by simp at h, fun h => absurd ⟨h.1.1, h.1.2.1⟩ hA⟩
theorem spec_grid (l : List ByteArray) : Ev (fun k => spec_l29Grid.f k l) (gridB l) := by
  unfold spec_l29Grid.f
  refine ev_use (in_eq _ _ _) ?_
  by_cases h : 1 ≤ l.length ∧ l.length ≤ 32
  · obtain ⟨r, hr, hiff⟩ := spec_loop l (by omega) h.2 l.length 0 (by omega)
    have : r = gridB l := by
      rw [Bool.eq_iff_iff, hiff, gridB_yes, List.drop_zero]
      unfold Grid
      constructor
      · intro h2
        have h3 := h2 _ (List.getElem_mem (show 0 < l.length by omega))
        exact ⟨h.1, h.2, fun _ => ⟨h3.1, h3.2.1, fun y hy => (h2 y hy).2.2⟩⟩
      · rintro ⟨_, _, h2⟩ y hy
        have h3 := h2 (by omega)
        have h4 := h3.2.2 y hy
        exact ⟨by omega, by omega, h4⟩
    subst this
    exact ev_pos (by simp; omega) hr
  · have : gridB l = false := by
      rw [← Bool.not_eq_true, gridB_yes]
      exact fun g => h ⟨g.1, g.2.1⟩
    rw [this]
    exact ev_neg (by simp; omega) (ev_some _)
theorem idx_loop (l : List ByteArray) (h0 : 0 < l.length) (h1 : l.length ≤ 32) (d : Nat) : ∀ (i : Nat), i + d = l.length →
    ∃ r, Ev (fun k => slices_IndexFunc_string_string_impl_isGrid_1.l0 k l (l.length : Int) (i : Int) l) r ∧ (r < 0 ↔ ∀ y ∈ l.drop i, y.size = l[0].size) := by
  induction d with
  | zero =>
    intro i hd
    refine ⟨-1, ev_one fun k => ?_, by simp [List.drop_of_length_le (show l.length ≤ i by omega)]⟩
    simp only [slices_IndexFunc_string_string_impl_isGrid_1.l0]
    rw [if_neg (by omega)]
  | succ d ih =>
    intro i hd
    have hi : i < l.length := by omega
    have hdrop : l.drop i = l[i] :: l.drop (i + 1) := List.drop_eq_getElem_cons hi
    have e0 : rdOf ByteArray.empty l 0 = l[0] := rdOf_at _ l 0 h0
    have e1 : impl_isGrid_1.f (rdOf ByteArray.empty l (i : Int)) l = some (decide (l[i].size ≠ l[0].size)) := by
      unfold impl_isGrid_1.f
      rw [if_pos (by omega), e0, rdOf_at _ l i hi]
      congr 1
      rw [Bool.eq_iff_iff]
      simp
      omega
    by_cases hB : l[i].size = l[0].size
    · obtain ⟨r, hr, hiff⟩ := ih (i + 1) (by omega)
      refine ⟨r, ev_step hr fun k => ?_, ?_⟩
      · simp only [slices_IndexFunc_string_string_impl_isGrid_1.l0]
        rw [if_pos (by omega), if_pos (by omega), if_pos (by omega), e1]
        simp only [Option.bind_some]
        rw [if_neg (by simp [hB]), w64s hi (by omega)]
      · rw [hdrop, List.forall_mem_cons, hiff]
        exact ⟨fun h => ⟨hB, h⟩, fun h => h.2⟩
    · refine ⟨i, ev_one fun k => ?_, ?_⟩
      · simp only [slices_IndexFunc_string_string_impl_isGrid_1.l0]
        rw [if_pos (by omega), if_pos (by omega), if_pos (by omega), e1]
        simp only [Option.bind_some]
        rw [if_pos (by simp [hB])]
      · rw [hdrop, List.forall_mem_cons]
        exact ⟨fun h => by omega, fun h => absurd h.1 hB⟩
theorem impl_grid (l : List ByteArray) : Ev (fun k => impl_isGrid.f k l) (gridB l) := by
  unfold impl_isGrid.f impl_length_string.f
  simp only [Option.bind_some]
  refine ev_use (within_eq _ _ _) ?_
  by_cases h : 1 ≤ l.length ∧ l.length ≤ 32
  · refine ev_pos (by simp; omega) (ev_pos (by omega) (ev_use (within_eq _ _ _) ?_))
    rw [show rdOf ByteArray.empty l 0 = l[0] from rdOf_at _ l 0 (by omega)]
    by_cases hs : 1 ≤ l[0].size ∧ l[0].size ≤ 32
    · refine ev_pos (by simp; omega) ?_
      unfold slices_ContainsFunc_string_string_impl_isGrid_1.f slices_IndexFunc_string_string_impl_isGrid_1.f
      obtain ⟨r, hr, hiff⟩ := idx_loop l (by omega) h.2 l.length 0 (by omega)
      refine ev_bind (ev_bind hr (ev_some _)) ?_
      have : (!decide (r ≥ 0)) = gridB l := by
        rw [Bool.eq_iff_iff, gridB_yes]
        simp only [Bool.not_eq_true', decide_eq_false_iff_not, ge_iff_le, Int.not_le]
        rw [hiff, List.drop_zero]
        exact ⟨fun h2 => ⟨h.1, h.2, fun _ => ⟨hs.1, hs.2, h2⟩⟩, fun h2 => (h2.2.2 (by omega)).2.2⟩
      rw [this]
      exact ev_some _
    · have : gridB l = false := by
        rw [← Bool.not_eq_true, gridB_yes]
        exact fun g => hs ⟨(g.2.2 (by omega)).1, (g.2.2 (by omega)).2.1⟩
      rw [this]
      exact ev_neg (by simp; omega) (ev_some _)
  · have : gridB l = false := by
      rw [← Bool.not_eq_true, gridB_yes]
      exact fun g => h ⟨g.1, g.2.1⟩
    rw [this]
    exact ev_neg (by simp; omega) (ev_some _)
end Go.Proofs.Ytfmkbcmoibhffaa.GridR
