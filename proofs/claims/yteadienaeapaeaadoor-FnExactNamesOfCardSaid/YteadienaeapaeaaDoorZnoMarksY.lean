/- The names of the marks of a program: what NamesOf returns, and which names are in it. -/
import Derived.Test.YteadienaeapaeaaDoorZnoProgY
import Derived.Test.YteadienaeapaeaaDoorZnoLoop
import Derived.Test.YteadienaeapaeaaDoorZnoPYx9
namespace Go.Proofs.YteadienaeapaeaaDoor.MarksY
open Go Go.RowKit Go.Proofs.YteadienaeapaeaaDoorW.PrintWords Go.Proofs.YteadienaeapaeaaDoorW.PrintLast Go.Proofs.YteadienaeapaeaaDoorW.PrintMore Go.Proofs.YteadienaeapaeaaDoor.Base Go.Proofs.YteadienaeapaeaaDoor.Loop Go.Proofs.YteadienaeapaeaaDoor.NameY Go.Proofs.YteadienaeapaeaaDoor.StepY Go.Proofs.YteadienaeapaeaaDoor.ProgY Go.Proofs.YteadienaeapaeaaDoor.PY
theorem keep_below {α : Type} [Inhabited α] [DecidableEq α] (d : Array α) : ∀ j, ∃ i, i ≤ j ∧ Lib.keeps d i = true ∧ d[i]! = d[j]!
  | 0 => ⟨0, Nat.le_refl _, by simp [Lib.keeps], rfl⟩
  | j + 1 => by
    by_cases h : d[j + 1]! = d[j]!
    · obtain ⟨i, h1, h2, h3⟩ := keep_below d j
      exact ⟨i, by omega, h2, by rw [h3, h]⟩
    · exact ⟨j + 1, Nat.le_refl _, by simp [Lib.keeps, h], rfl⟩
theorem compact_mem {α : Type} [Inhabited α] [DecidableEq α] (zs : List α) (x : α) : x ∈ Lib.compact zs ↔ x ∈ zs := by
  unfold Lib.compact Lib.compactUpTo
  rw [List.mem_map]
  constructor
  · rintro ⟨j, hj, rfl⟩
    have hj2 : j < zs.length := List.mem_range.1 (List.mem_filter.1 hj).1
    rw [getElem!_pos _ j (by simpa using hj2)]
    simp
  · intro h
    obtain ⟨j, hj, rfl⟩ := List.mem_iff_getElem.1 h
    obtain ⟨i, h1, h2, h3⟩ := keep_below zs.toArray j
    refine ⟨i, List.mem_filter.2 ⟨List.mem_range.2 (by omega), h2⟩, ?_⟩
    rw [h3, getElem!_pos _ j (by simpa using hj)]
    simp
theorem str_bs (b : ByteArray) : strOf (bsOf b) = b := rfl
theorem namesEnd_mem (xs : List ByteArray) (b : ByteArray) : b ∈ namesEnd xs ↔ b ∈ xs := by
  unfold namesEnd
  rw [List.mem_map]
  constructor
  · rintro ⟨l, hl, rfl⟩
    rw [compact_mem, List.mem_mergeSort, List.mem_map] at hl
    obtain ⟨c, hc, rfl⟩ := hl
    exact hc
  · intro h
    refine ⟨bsOf b, ?_, rfl⟩
    rw [compact_mem, List.mem_mergeSort, List.mem_map]
    exact ⟨b, h, rfl⟩
/-- The names of the marks, in their order. -/
def namesL (l : List S34) : List ByteArray := (l.filter fun y => y.f0 == 4).map fun y => y.f1
theorem namesL_cons (y : S34) (l : List S34) : namesL (y :: l) = if y.f0 = 4 then y.f1 :: namesL l else namesL l := by
  unfold namesL
  by_cases h : y.f0 = 4
  · rw [if_pos h, List.filter_cons_of_pos (by simpa using h)]; rfl
  · rw [if_neg h, List.filter_cons_of_neg (by simpa using h)]
theorem names_loop (l : List S34) (hl : l.length ≤ 30) (d : Nat) : ∀ (i : Nat) (x : List ByteArray), i + d = l.length → x.length ≤ i → Ev (fun k => impl_NamesOf.l0 k x l (l.length : Int) (i : Int)) (namesEnd (x ++ namesL (l.drop i))) := by
  induction d with
  | zero =>
    intro i x hd hx
    refine ev_one fun k => ?_
    simp only [impl_NamesOf.l0]
    rw [if_neg (by omega), if_pos (by omega), List.drop_of_length_le (by omega)]
    simp [namesL]
  | succ d ih =>
    intro i x hd hx
    have hi : i < l.length := by omega
    rw [List.drop_eq_getElem_cons hi, namesL_cons]
    by_cases h : l[i].f0 = 4
    · rw [if_pos h]
      have := ih (i + 1) (x ++ [l[i].f1]) (by omega) (by simp; omega)
      rw [List.append_assoc] at this
      refine ev_step this fun k => ?_
      simp only [impl_NamesOf.l0]
      rw [if_pos (by omega), if_pos (by omega), if_pos (by omega), rd34 l i hi, if_pos h, if_pos (by omega), w64s hi (by omega)]
    · rw [if_neg h]
      refine ev_step (ih (i + 1) x (by omega) (by omega)) fun k => ?_
      simp only [impl_NamesOf.l0]
      rw [if_pos (by omega), if_pos (by omega), if_pos (by omega), rd34 l i hi, if_neg h, w64s hi (by omega)]
theorem prog_len {l : List S34} (h : progB l = true) : l.length ≤ 30 := by
  unfold progB at h
  simp only [Bool.and_eq_true, decide_eq_true_eq] at h
  exact h.2
theorem names_impl (l : List S34) (hn : Names l) : Ev (fun k => impl_NamesOf.f k l) (if progB l = true then namesEnd (namesL l) else []) := by
  unfold impl_NamesOf.f
  have hq := prog_impl l hn
  cases h : progB l with
  | false =>
    rw [h] at hq
    exact ev_bind hq (ev_neg (by simp) (ev_some _))
  | true =>
    rw [h] at hq
    have := names_loop l (prog_len h) l.length 0 [] (by omega) (by simp)
    exact ev_bind hq (ev_pos rfl this)
end Go.Proofs.YteadienaeapaeaaDoor.MarksY
