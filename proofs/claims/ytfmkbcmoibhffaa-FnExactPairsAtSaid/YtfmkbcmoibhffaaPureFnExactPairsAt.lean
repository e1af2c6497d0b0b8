/- PairsAt of the program returns the same list of pairs as PairsAt of the reference, in memory of its own, for every three int64 numbers of rows, columns and side; no condition. -/
import Derived.Test.YtfmkbcmoibhffaaPFnExactPairsAtx3
namespace Go.Proofs.Ytfmkbcmoibhffaa.Pure
open Go.RowKit Go.Proofs.Ytfmkbcmoibhffaa.PFnExactPairsAt Go.Proofs.YtfmkbcmoibhffaaW.PrintWords Go.Proofs.YtfmkbcmoibhffaaW.PrintLast

theorem in_eq (a b c : Int) : spec_l00In.f a b c = some (decide (b ≤ a) && decide (a ≤ c)) := by
  unfold spec_l00In.f
  by_cases h : a ≥ b
  · rw [if_pos h]; simp [h]
  · rw [if_neg h]; simp [h]
theorem within_eq (a b c : Int) : impl_within.f a b c = some (decide (b ≤ a) && decide (a ≤ c)) := in_eq a b c
def okMap (a b : Int) : Bool := (decide (1 ≤ a) && decide (a ≤ 12)) && ((decide (1 ≤ b) && decide (b ≤ 12)) && decide (wrap64 (a * b) ≤ 12))
theorem ok_spec (a b : Int) : spec_l26Ok.f a b = some (okMap a b) := by
  unfold spec_l26Ok.f okMap
  simp only [in_eq, Option.bind_some]
  split
  · rename_i h; simp only [h, Bool.true_and]; split
    · rename_i h; simp [h]
    · rename_i h; simp [Bool.eq_false_iff.mpr h]
  · rename_i h; simp [Bool.eq_false_iff.mpr h]
theorem ok_impl (a b : Int) : impl_ValidMap.f a b = some (okMap a b) := ok_spec a b

def small (n : Nat) : Bool := (List.range 13).all fun a => (List.range 13).all fun b => (List.range 5).all fun s =>
  !(okMap a b) || laws_FnExactPairsAt.f n a b s == some true
theorem small_yes : small 100 = true := by decide +kernel

theorem no (k : Nat) (a b s : Int) (h : (okMap a b && (decide (1 ≤ s) && decide (s ≤ 4))) = false) : laws_FnExactPairsAt.f (k + 1) a b s = some true := by
  have e1 : spec_PairsAt.f (k + 1) a b s = some [] := by
    unfold spec_PairsAt.f
    simp only [ok_spec, in_eq, Option.bind_some]
    split
    · rename_i h1; rw [h1, Bool.true_and] at h; rw [h]; rfl
    · rfl
  have e2 : impl_PairsAt.f (k + 1) a b s = some [] := by
    unfold impl_PairsAt.f
    simp only [ok_impl, within_eq, Option.bind_some]
    split
    · rename_i h1; rw [h1, Bool.true_and] at h; rw [h]; rfl
    · rfl
  unfold laws_FnExactPairsAt.f
  rw [e1, e2]; rfl

theorem FnExactPairsAt : laws_FnExactPairsAt.Pure := by
  intro a b s _ _ _
  refine ⟨100, ?_⟩
  by_cases h : (okMap a b && (decide (1 ≤ s) && decide (s ≤ 4))) = true
  · have h1 := h
    simp only [okMap, Bool.and_eq_true, decide_eq_true_eq] at h1
    have hm := small_yes
    unfold small at hm
    simp only [List.all_eq_true, List.mem_range] at hm
    have := hm a.toNat (by omega) b.toNat (by omega) s.toNat (by omega)
    rw [Int.toNat_of_nonneg (by omega), Int.toNat_of_nonneg (by omega), Int.toNat_of_nonneg (by omega)] at this
    simp only [Bool.and_eq_true] at h
    simpa [h.1] using this
  · exact no 99 a b s (Bool.eq_false_iff.mpr h)

end Go.Proofs.Ytfmkbcmoibhffaa.Pure
