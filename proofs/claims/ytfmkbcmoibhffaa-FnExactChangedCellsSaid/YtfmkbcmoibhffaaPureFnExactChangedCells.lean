/- ChangedCells of the program returns what ChangedCells of the reference returns and leaves its arguments alone, for every two lists of strings; lists that the statement passes over (more than 2^20 in all) are passed over here, too. -/
import Derived.Test.YtfmkbcmoibhffaaKindsFnExactChangedCells
import Derived.Test.YtfmkbcmoibhffaaStrA
namespace Go.Proofs.Ytfmkbcmoibhffaa.Pure
open Go Go.RowKit Go.Proofs.YtfmkbcmoibhffaaW.PrintWords Go.Proofs.YtfmkbcmoibhffaaW.PrintLast Go.Proofs.YtfmkbcmoibhffaaW.PrintMore Go.Proofs.Ytfmkbcmoibhffaa.Base Go.Proofs.Ytfmkbcmoibhffaa.StrA Go.Proofs.Ytfmkbcmoibhffaa.PA

theorem in_eq (a b c : Int) : spec_l00In.f a b c = some (decide (b ≤ a) && decide (a ≤ c)) := by
  unfold spec_l00In.f
  by_cases h : a ≥ b
  · rw [if_pos h]; simp [h]
  · rw [if_neg h]; simp [h]
theorem within_eq (a b c : Int) : impl_within.f a b c = some (decide (b ≤ a) && decide (a ≤ c)) := in_eq a b c
/-- Are these lines of one length, from 1 to 32, and how many are there. -/
def Grid (l : List ByteArray) : Prop := 1 ≤ l.length ∧ l.length ≤ 32 ∧ ∀ (h : 0 < l.length), 1 ≤ l[0].size ∧ l[0].size ≤ 32 ∧ ∀ y ∈ l, y.size = l[0].size
noncomputable def gridB (l : List ByteArray) : Bool := @decide (Grid l) (Classical.propDecidable _)
theorem gridB_yes {l : List ByteArray} : gridB l = true ↔ Grid l := by unfold gridB; simp
theorem spec_loop (l : List ByteArray) (h0 : 0 < l.length) (h1 : l.length ≤ 32) (d : Nat) : ∀ (i : Nat), i + d = l.length →
    ∃ r, Ev (fun k => spec_l29Grid.l0 k l (i : Int)) r ∧ (r = true ↔ ∀ y ∈ l.drop i, 1 ≤ y.size ∧ y.size ≤ 32 ∧ y.size = l[0].size) := by
  induction d with
  | zero =>
    intro i hd
    refine ⟨true, ev_one fun k => ?_, by simp [List.drop_of_length_le (show l.length ≤ i by omega)]⟩
    simp only [spec_l29Grid.l0]
    rw [if_neg (by omega)]
  | succ d ih =>
    intro i hd
    have hi : i < l.length := by omega
    have hdrop : l.drop i = l[i] :: l.drop (i + 1) := List.drop_eq_getElem_cons hi
    have e0 : rdOf ByteArray.empty l 0 = l[0] := rdOf_at _ l 0 h0
    by_cases hA : 1 ≤ l[i].size ∧ l[i].size ≤ 32
    · by_cases hB : l[i].size = l[0].size
      · obtain ⟨r, hr, hiff⟩ := ih (i + 1) (by omega)
        refine ⟨r, ev_step hr fun k => ?_, ?_⟩
        · simp only [spec_l29Grid.l0]
          rw [if_pos (by omega), if_pos (by omega), rdOf_at _ l i hi, e0, in_eq]
          simp only [Option.bind_some]
          rw [if_pos (by simp; omega), if_pos (by omega), if_pos (by omega), w64s hi (by omega)]
        · rw [hdrop, List.forall_mem_cons, hiff]
          exact ⟨fun h => ⟨⟨hA.1, hA.2, hB⟩, h⟩, fun h => h.2⟩
      · refine ⟨false, ev_one fun k => ?_, ?_⟩
        · simp only [spec_l29Grid.l0]
          rw [if_pos (by omega), if_pos (by omega), rdOf_at _ l i hi, e0, in_eq]
          simp only [Option.bind_some]
          rw [if_pos (by simp; omega), if_pos (by omega), if_neg (by omega)]
        · rw [hdrop, List.forall_mem_cons]
          exact ⟨fun h => by simp at h, fun h => absurd h.1.2.2 hB⟩
    · refine ⟨false, ev_one fun k => ?_, ?_⟩
      · simp only [spec_l29Grid.l0]
        rw [if_pos (by omega), if_pos (by omega), rdOf_at _ l i hi, in_eq]
        simp only [Option.bind_some]
        rw [if_neg (by simp; omega)]
      · rw [hdrop, List.forall_mem_cons]
        exact ⟨fun h => by simp at h, fun h => absurd ⟨h.1.1, h.1.2.1⟩ hA⟩
theorem spec_grid (l : List ByteArray) : Ev (fun k => spec_l29Grid.f k l) (gridB l) := by
  unfold spec_l29Grid.f
  refine ev_use (in_eq _ _ _) ?_
  by_cases h : 1 ≤ l.length ∧ l.length ≤ 32
  · obtain ⟨r, hr, hiff⟩ := spec_loop l (by omega) h.2 l.length 0 (by omega)
    have : r = gridB l := by
      rw [Bool.eq_iff_iff, hiff, gridB_yes, List.drop_zero]
      unfold Grid
      constructor
      · intro h2
        have h3 := h2 _ (List.getElem_mem (show 0 < l.length by omega))
        exact ⟨h.1, h.2, fun _ => ⟨h3.1, h3.2.1, fun y hy => (h2 y hy).2.2⟩⟩
      · rintro ⟨_, _, h2⟩ y hy
        have h3 := h2 (by omega)
        have h4 := h3.2.2 y hy
        exact ⟨by omega, by omega, h4⟩
    subst this
    exact ev_pos (by simp; omega) hr
  · have : gridB l = false := by
      rw [← Bool.not_eq_true, gridB_yes]
      exact fun g => h ⟨g.1, g.2.1⟩
    rw [this]
    exact ev_neg (by simp; omega) (ev_some _)
theorem idx_loop (l : List ByteArray) (h0 : 0 < l.length) (h1 : l.length ≤ 32) (d : Nat) : ∀ (i : Nat), i + d = l.length →
    ∃ r, Ev (fun k => slices_IndexFunc_string_string_impl_isGrid_1.l0 k l (l.length : Int) (i : Int) l) r ∧ (r < 0 ↔ ∀ y ∈ l.drop i, y.size = l[0].size) := by
  induction d with
  | zero =>
    intro i hd
    refine ⟨-1, ev_one fun k => ?_, by simp [List.drop_of_length_le (show l.length ≤ i by omega)]⟩
    simp only [slices_IndexFunc_string_string_impl_isGrid_1.l0]
    rw [if_neg (by omega)]
  | succ d ih =>
    intro i hd
    have hi : i < l.length := by omega
    have hdrop : l.drop i = l[i] :: l.drop (i + 1) := List.drop_eq_getElem_cons hi
    have e0 : rdOf ByteArray.empty l 0 = l[0] := rdOf_at _ l 0 h0
    have e1 : impl_isGrid_1.f (rdOf ByteArray.empty l (i : Int)) l = some (decide (l[i].size ≠ l[0].size)) := by
      unfold impl_isGrid_1.f
      rw [if_pos (by omega), e0, rdOf_at _ l i hi]
      congr 1
      rw [Bool.eq_iff_iff]
      simp
      omega
    by_cases hB : l[i].size = l[0].size
    · obtain ⟨r, hr, hiff⟩ := ih (i + 1) (by omega)
      refine ⟨r, ev_step hr fun k => ?_, ?_⟩
      · simp only [slices_IndexFunc_string_string_impl_isGrid_1.l0]
        rw [if_pos (by omega), if_pos (by omega), if_pos (by omega), e1]
        simp only [Option.bind_some]
        rw [if_neg (by simp [hB]), w64s hi (by omega)]
      · rw [hdrop, List.forall_mem_cons, hiff]
        exact ⟨fun h => ⟨hB, h⟩, fun h => h.2⟩
    · refine ⟨i, ev_one fun k => ?_, ?_⟩
      · simp only [slices_IndexFunc_string_string_impl_isGrid_1.l0]
        rw [if_pos (by omega), if_pos (by omega), if_pos (by omega), e1]
        simp only [Option.bind_some]
        rw [if_pos (by simp [hB])]
      · rw [hdrop, List.forall_mem_cons]
        exact ⟨fun h => by omega, fun h => absurd h.1 hB⟩
theorem impl_grid (l : List ByteArray) : Ev (fun k => impl_isGrid.f k l) (gridB l) := by
  unfold impl_isGrid.f impl_length_string.f
  simp only [Option.bind_some]
  refine ev_use (within_eq _ _ _) ?_
  by_cases h : 1 ≤ l.length ∧ l.length ≤ 32
  · refine ev_pos (by simp; omega) (ev_pos (by omega) (ev_use (within_eq _ _ _) ?_))
    rw [show rdOf ByteArray.empty l 0 = l[0] from rdOf_at _ l 0 (by omega)]
    by_cases hs : 1 ≤ l[0].size ∧ l[0].size ≤ 32
    · refine ev_pos (by simp; omega) ?_
      unfold slices_ContainsFunc_string_string_impl_isGrid_1.f slices_IndexFunc_string_string_impl_isGrid_1.f
      obtain ⟨r, hr, hiff⟩ := idx_loop l (by omega) h.2 l.length 0 (by omega)
      refine ev_bind (ev_bind hr (ev_some _)) ?_
      have : (!decide (r ≥ 0)) = gridB l := by
        rw [Bool.eq_iff_iff, gridB_yes]
        simp only [Bool.not_eq_true', decide_eq_false_iff_not, ge_iff_le, Int.not_le]
        rw [hiff, List.drop_zero]
        exact ⟨fun h2 => ⟨h.1, h.2, fun _ => ⟨hs.1, hs.2, h2⟩⟩, fun h2 => (h2.2.2 (by omega)).2.2⟩
      rw [this]
      exact ev_some _
    · have : gridB l = false := by
        rw [← Bool.not_eq_true, gridB_yes]
        exact fun g => hs ⟨(g.2.2 (by omega)).1, (g.2.2 (by omega)).2.1⟩
      rw [this]
      exact ev_neg (by simp; omega) (ev_some _)
  · have : gridB l = false := by
      rw [← Bool.not_eq_true, gridB_yes]
      exact fun g => h ⟨g.1, g.2.1⟩
    rw [this]
    exact ev_neg (by simp; omega) (ev_some _)
theorem count_loop (a b : List ByteArray) (hab : a.length = b.length) (ha : a.length ≤ 32) (hs : ∀ i (h : i < a.length), (a[i]).size ≤ 32 ∧ (a[i]).size = (b[i]'(by omega)).size) (d : Nat) : ∀ (i : Nat) (n : Int), i + d = a.length →
    ∃ r, Ev (fun k => spec_ChangedCells.l0 k a b n (i : Int)) r ∧ Ev (fun k => impl_ChangedCells.l0 k b n a (a.length : Int) (i : Int)) r := by
  induction d with
  | zero =>
    intro i n hd
    refine ⟨(n, true), ev_one fun k => ?_, ev_one fun k => ?_⟩
    · simp only [spec_ChangedCells.l0]
      rw [if_neg (by omega)]
    · simp only [impl_ChangedCells.l0]
      rw [if_neg (by omega)]
  | succ d ih =>
    intro i n hd
    have hi : i < a.length := by omega
    have hib : i < b.length := by omega
    have hz := hs i hi
    have cols : ∀ (e c : Nat) (n : Int), c + e = a[i].size → ∃ r, Ev (fun k => spec_ChangedCells.l1 k a b n (i : Int) (c : Int)) r ∧ Ev (fun k => impl_ChangedCells.l1 k b n (i : Int) a[i] a (a.length : Int) (i : Int) (a[i].size : Int) (c : Int)) r := by
      intro e
      induction e with
      | zero =>
        intro c n hc
        obtain ⟨r, h1, h2⟩ := ih (i + 1) n (by omega)
        refine ⟨r, ev_step h1 fun k => ?_, ev_step h2 fun k => ?_⟩
        · simp only [spec_ChangedCells.l1]
          rw [if_pos (by omega), if_pos (by omega), rdOf_at _ a i hi, if_neg (by omega), w64s hi (by omega)]
        · simp only [impl_ChangedCells.l1]
          rw [if_neg (by omega), w64s hi (by omega)]
      | succ e ihe =>
        intro c n hc
        have hc' : c < a[i].size := by omega
        by_cases hbt : bt a[i] (c : Int) = bt b[i] (c : Int)
        · obtain ⟨r, h1, h2⟩ := ihe (c + 1) n (by omega)
          refine ⟨r, ev_step h1 fun k => ?_, ev_step h2 fun k => ?_⟩
          · simp only [spec_ChangedCells.l1]
            rw [if_pos (by omega), if_pos (by omega), rdOf_at _ a i hi, rdOf_at _ b i hib, if_pos (by omega), if_pos (by omega), if_pos (by omega), if_pos (by omega), if_pos hbt, w64s hc' (by omega)]
          · simp only [impl_ChangedCells.l1]
            rw [if_pos (by omega), if_pos (by omega), if_pos (by omega), if_pos (by omega), if_pos (by omega), rdOf_at _ b i hib, if_pos (by omega), if_pos hbt, w64s hc' (by omega)]
        · obtain ⟨r, h1, h2⟩ := ihe (c + 1) (wrap64 (n + 1)) (by omega)
          refine ⟨r, ev_step h1 fun k => ?_, ev_step h2 fun k => ?_⟩
          · simp only [spec_ChangedCells.l1]
            rw [if_pos (by omega), if_pos (by omega), rdOf_at _ a i hi, rdOf_at _ b i hib, if_pos (by omega), if_pos (by omega), if_pos (by omega), if_pos (by omega), if_neg hbt, w64s hc' (by omega)]
          · simp only [impl_ChangedCells.l1]
            rw [if_pos (by omega), if_pos (by omega), if_pos (by omega), if_pos (by omega), if_pos (by omega), rdOf_at _ b i hib, if_pos (by omega), if_neg hbt, w64s hc' (by omega)]
    obtain ⟨r, h1, h2⟩ := cols a[i].size 0 n (by omega)
    refine ⟨r, ev_step h1 fun k => ?_, ev_step h2 fun k => ?_⟩
    · simp only [spec_ChangedCells.l0]
      rw [if_pos (by omega)]
      rfl
    · simp only [impl_ChangedCells.l0]
      rw [if_pos (by omega), if_pos (by omega), if_pos (by omega), rdOf_at _ a i hi]
      rfl
theorem changed_eq (a b : List ByteArray) : ∃ r, Ev (fun k => spec_ChangedCells.f k a b) r ∧ Ev (fun k => impl_ChangedCells.f k a b) r := by
  have bad1 : Ev (fun k => spec_ChangedCells.j0 k a b true) (0, false) := ev_one fun k => by simp [spec_ChangedCells.j0]
  have bad2 : Ev (fun k => impl_ChangedCells.j0 k a b true) (0, false) := ev_one fun k => by simp [impl_ChangedCells.j0]
  by_cases ga : gridB a = true
  · by_cases gb : gridB b = true
    · have gA := gridB_yes.1 ga
      have gB := gridB_yes.1 gb
      have ea : rdOf ByteArray.empty a 0 = a[0]'(by have := gA.1; omega) := rdOf_at _ a 0 (by have := gA.1; omega)
      have eb : rdOf ByteArray.empty b 0 = b[0]'(by have := gB.1; omega) := rdOf_at _ b 0 (by have := gB.1; omega)
      have hA := gA.2.2 (by have := gA.1; omega)
      have hB := gB.2.2 (by have := gB.1; omega)
      by_cases hl : a.length = b.length
      · by_cases hz : (a[0]'(by have := gA.1; omega)).size = (b[0]'(by have := gB.1; omega)).size
        · obtain ⟨r, h1, h2⟩ := count_loop a b hl gA.2.1 (fun i h => by
            have h3 := hA.2.2 _ (List.getElem_mem h)
            have h4 := hB.2.2 _ (List.getElem_mem (show i < b.length by omega))
            omega) a.length 0 0 (by omega)
          refine ⟨r, ?_, ?_⟩
          · unfold spec_ChangedCells.f
            refine ev_bind (spec_grid a) (ev_pos ga (ev_bind (spec_grid b) (ev_pos gb (ev_pos (by omega) (ev_pos (by have := gA.1; omega) (ev_pos (by have := gB.1; omega) ?_))))))
            rw [ea, eb, hz]
            refine ev_step h1 fun k => ?_
            simp [spec_ChangedCells.j0]
          · unfold impl_ChangedCells.f
            refine ev_bind (impl_grid a) (ev_pos ga (ev_bind (impl_grid b) (ev_pos gb (ev_pos (by omega) (ev_pos (by have := gA.1; omega) (ev_pos (by have := gB.1; omega) ?_))))))
            rw [ea, eb, hz]
            refine ev_step h2 fun k => ?_
            simp [impl_ChangedCells.j0]
        · refine ⟨(0, false), ?_, ?_⟩
          · unfold spec_ChangedCells.f
            refine ev_bind (spec_grid a) (ev_pos ga (ev_bind (spec_grid b) (ev_pos gb (ev_pos (by omega) (ev_pos (by have := gA.1; omega) (ev_pos (by have := gB.1; omega) ?_))))))
            rw [ea, eb, show ((((a[0]'(by have := gA.1; omega)).size : Int) != ((b[0]'(by have := gB.1; omega)).size : Int)) = true) from by simp; omega]
            exact bad1
          · unfold impl_ChangedCells.f
            refine ev_bind (impl_grid a) (ev_pos ga (ev_bind (impl_grid b) (ev_pos gb (ev_pos (by omega) (ev_pos (by have := gA.1; omega) (ev_pos (by have := gB.1; omega) ?_))))))
            rw [ea, eb, show ((((a[0]'(by have := gA.1; omega)).size : Int) != ((b[0]'(by have := gB.1; omega)).size : Int)) = true) from by simp; omega]
            exact bad2
      · refine ⟨(0, false), ?_, ?_⟩
        · unfold spec_ChangedCells.f
          exact ev_bind (spec_grid a) (ev_pos ga (ev_bind (spec_grid b) (ev_pos gb (ev_neg (by omega) bad1))))
        · unfold impl_ChangedCells.f
          exact ev_bind (impl_grid a) (ev_pos ga (ev_bind (impl_grid b) (ev_pos gb (ev_neg (by omega) bad2))))
    · refine ⟨(0, false), ?_, ?_⟩
      · unfold spec_ChangedCells.f
        exact ev_bind (spec_grid a) (ev_pos ga (ev_bind (spec_grid b) (ev_neg gb bad1)))
      · unfold impl_ChangedCells.f
        exact ev_bind (impl_grid a) (ev_pos ga (ev_bind (impl_grid b) (ev_neg gb bad2)))
  · refine ⟨(0, false), ?_, ?_⟩
    · unfold spec_ChangedCells.f
      exact ev_bind (spec_grid a) (ev_neg ga bad1)
    · unfold impl_ChangedCells.f
      exact ev_bind (impl_grid a) (ev_neg ga bad2)
theorem FnExactChangedCells : FnExactChangedCells.Stat := by
  intro a b ha hb
  refine Ev.rounds (g := fun k => laws_FnExactChangedCells.f k a b) (r := true) ?_
  unfold laws_FnExactChangedCells.f
  obtain ⟨r1, e1, l1, s1⟩ := sz_tells a ha.1 ha.2 1048576 (by omega) (by omega)
  refine ev_bind e1 ?_
  by_cases h1 : r1 < 0
  · exact ev_pos h1 (ev_some _)
  · refine ev_neg h1 ?_
    obtain ⟨r2, e2, l2, s2⟩ := sz_tells b hb.1 hb.2 r1 (by omega) (by omega)
    refine ev_bind e2 ?_
    by_cases h2 : r2 < 0
    · exact ev_pos h2 (ev_some _)
    · have la := s1 (by omega)
      have lb := s2 (by omega)
      obtain ⟨r, q1, q2⟩ := changed_eq a b
      refine ev_neg h2 (ev_bind (to_self a la) (ev_bind (to_self b lb) (ev_bind q1 (ev_bind (to_self a la) (ev_bind (to_self b lb) (ev_bind q2 (ev_pos rfl ?_)))))))
      rw [show (r.2 != r.2) = false by simp]
      refine ev_step (f := fun k => (laws_toStringS.f k a).bind fun t261 => ((laws_eqStringS.f k a t261).bind fun t264 => (if t264 = true then ((laws_toStringS.f k b).bind fun t265 => ((laws_eqStringS.f k b t265).bind fun t268 => (if t268 = true then (some true) else (some false)))) else (some false)))) ?_ (fun k => by simp only [laws_FnExactChangedCells.j0]; rw [if_neg (by simp)])
      exact ev_bind (to_self a la) (ev_bind (eq_self a la) (ev_pos rfl (ev_bind (to_self b lb) (ev_bind (eq_self b lb) (ev_pos rfl (ev_some _))))))
end Go.Proofs.Ytfmkbcmoibhffaa.Pure
