/- CellCenter of the program returns what CellCenter of the reference returns, for every frame and every two int64 numbers; no condition. -/
import Derived.Test.YtfmkbcmoibhffaaKindsFnExactCellCenter
namespace Go.Proofs.Ytfmkbcmoibhffaa.Pure
open Go.RowKit Go.Proofs.Ytfmkbcmoibhffaa.PA Go.Proofs.YtfmkbcmoibhffaaW.PrintWords Go.Proofs.YtfmkbcmoibhffaaW.PrintLast Go.Proofs.YtfmkbcmoibhffaaW.PrintMore

theorem in_eq (a b c : Int) : spec_l00In.f a b c = some (decide (b ≤ a) && decide (a ≤ c)) := by
  unfold spec_l00In.f
  by_cases h : a ≥ b
  · rw [if_pos h]; simp [h]
  · rw [if_neg h]; simp [h]
theorem within_eq (a b c : Int) : impl_within.f a b c = some (decide (b ≤ a) && decide (a ≤ c)) := in_eq a b c
theorem w64 {x : Int} (h : -9223372036854775808 ≤ x) (h' : x ≤ 9223372036854775807) : wrap64 x = x := by unfold wrap64; omega

def mid (a c s : Int) : Int := a * 2 ^ (s + 1).toNat + 2 * c + 1
theorem mid_cases {a c s : Int} (h4 : 0 ≤ s) (h5 : s ≤ 3) : mid a c s = a * 2 + 2 * c + 1 ∧ s = 0 ∨ mid a c s = a * 4 + 2 * c + 1 ∧ s = 1 ∨ mid a c s = a * 8 + 2 * c + 1 ∧ s = 2 ∨ mid a c s = a * 16 + 2 * c + 1 ∧ s = 3 := by
  have hs : s = 0 ∨ s = 1 ∨ s = 2 ∨ s = 3 := by omega
  rcases hs with rfl | rfl | rfl | rfl
  · exact .inl ⟨rfl, rfl⟩
  · exact .inr (.inl ⟨rfl, rfl⟩)
  · exact .inr (.inr (.inl ⟨rfl, rfl⟩))
  · exact .inr (.inr (.inr ⟨rfl, rfl⟩))
theorem num_mid {a c s : Int} (h0 : -1000 ≤ a) (h1 : a ≤ 1000) (h2 : 0 ≤ c) (h3 : c ≤ 31) (h4 : 0 ≤ s) (h5 : s ≤ 3) (k : Nat) : spec_l01Num.f (k + 2) (mid a c s) 0 (s + 1) = some (mid a c s, 0, s + 1, true) := by
  have hm := mid_cases (a := a) (c := c) h4 h5
  have hodd : Int.tmod (mid a c s) 2 ≠ 0 := fun e => by
    have hd : (2 : Int) ∣ mid a c s := Int.dvd_of_tmod_eq_zero e
    omega
  have hne : ¬ (mid a c s = 0) := by omega
  have hlow : spec_l01Low.f (k + 2) (mid a c s) 0 (s + 1) = some (mid a c s, 0, s + 1) := by
    unfold spec_l01Low.f
    rw [if_neg hne]
    simp only [spec_l01Low.j0, spec_l01Low.l0]
    rw [if_neg (by simp), if_pos (by omega), if_neg hodd]
  have hok : spec_l01Ok.f (mid a c s) 0 (s + 1) = some true := by
    unfold spec_l01Ok.f
    simp only [in_eq, Option.bind_some]
    rw [if_pos (by simp; omega), if_pos (by simp), if_pos (by simp; omega), if_neg (by omega), if_neg hodd]
  unfold spec_l01Num.f
  rw [hlow]
  simp only [Option.bind_some]
  rw [hok]
  simp
theorem unit {a c s : Int} (h0 : -1000 ≤ a) (h1 : a ≤ 1000) (h2 : 0 ≤ c) (h3 : c ≤ 31) (h4 : 0 ≤ s) (h5 : s ≤ 3) : wrap64 ((wrap64 ((wrap64 (a * (shl .i64 2 (IntKind.u64.wrap s)))) + (wrap64 (2 * c)))) + 1) = mid a c s := by
  have hs : s = 0 ∨ s = 1 ∨ s = 2 ∨ s = 3 := by omega
  have e2 : wrap64 (2 * c) = 2 * c := w64 (by omega) (by omega)
  rcases hs with rfl | rfl | rfl | rfl
  · have e1 : shl .i64 2 (IntKind.u64.wrap 0) = 2 := by decide +kernel
    rw [e1, e2, w64 (x := a * 2) (by omega) (by omega), w64 (x := a * 2 + 2 * c) (by omega) (by omega), w64 (by omega) (by omega)]; rfl
  · have e1 : shl .i64 2 (IntKind.u64.wrap 1) = 4 := by decide +kernel
    rw [e1, e2, w64 (x := a * 4) (by omega) (by omega), w64 (x := a * 4 + 2 * c) (by omega) (by omega), w64 (by omega) (by omega)]; rfl
  · have e1 : shl .i64 2 (IntKind.u64.wrap 2) = 8 := by decide +kernel
    rw [e1, e2, w64 (x := a * 8) (by omega) (by omega), w64 (x := a * 8 + 2 * c) (by omega) (by omega), w64 (by omega) (by omega)]; rfl
  · have e1 : shl .i64 2 (IntKind.u64.wrap 3) = 16 := by decide +kernel
    rw [e1, e2, w64 (x := a * 16) (by omega) (by omega), w64 (x := a * 16 + 2 * c) (by omega) (by omega), w64 (by omega) (by omega)]; rfl
theorem spec_center {a b c d s : Int} (x y : Int) (h0 : -1000 ≤ a) (h1 : a ≤ 1000) (h2 : 0 ≤ c) (h3 : c ≤ 31) (g0 : -1000 ≤ b) (g1 : b ≤ 1000) (g2 : 0 ≤ d) (g3 : d ≤ 31) (h4 : 0 ≤ s) (h5 : s ≤ 3) (k : Nat) :
    spec_l29Center.f (k + 2) a b x y s c d = some (mid a c s, 0, s + 1, mid b d s, 0, s + 1) := by
  have e1 : wrap64 (s + 1) = s + 1 := w64 (by omega) (by omega)
  have e0 : IntKind.u64.wrap s = s := by
    have hs : s = 0 ∨ s = 1 ∨ s = 2 ∨ s = 3 := by omega
    rcases hs with rfl | rfl | rfl | rfl <;> decide +kernel
  unfold spec_l29Center.f
  rw [unit h0 h1 h2 h3 h4 h5, unit g0 g1 g2 g3 h4 h5, e1, num_mid h0 h1 h2 h3 h4 h5, if_pos (by rw [e0]; exact h4)]
  simp only [Option.bind_some]
  rw [num_mid g0 g1 g2 g3 h4 h5]
  rfl
theorem impl_at {a c s : Int} (x y z u : Int) (h0 : -1000 ≤ a) (h1 : a ≤ 1000) (h2 : 0 ≤ c) (h3 : c ≤ 31) (h4 : 0 ≤ s) (h5 : s ≤ 3) : impl_Frame_center_1.f a c x y z u s = some (mid a c s, 0, s + 1) := by
  have e1 : wrap64 (s + 1) = s + 1 := w64 (by omega) (by omega)
  have e2 : wrap64 (2 * c) = 2 * c := w64 (by omega) (by omega)
  unfold impl_Frame_center_1.f
  rw [e1, e2, if_pos (by omega)]
  have hs : s = 0 ∨ s = 1 ∨ s = 2 ∨ s = 3 := by omega
  have e3 : shl .i64 a (s + 1) = wrap64 (a * 2 ^ (s + 1).toNat) := by
    have hb : min (s + 1).toNat IntKind.i64.bits = (s + 1).toNat := by
      have : IntKind.i64.bits = 64 := rfl
      omega
    unfold shl
    rw [hb, IntKind.wrap_i64]
    unfold wrap64
    rfl
  have e4 : wrap64 (wrap64 (wrap64 (a * 2 ^ (s + 1).toNat) + 2 * c) + 1) = mid a c s := by
    rcases hs with rfl | rfl | rfl | rfl
    · show wrap64 (wrap64 (wrap64 (a * 2) + 2 * c) + 1) = a * 2 + 2 * c + 1
      rw [w64 (x := a * 2) (by omega) (by omega), w64 (x := a * 2 + 2 * c) (by omega) (by omega), w64 (by omega) (by omega)]
    · show wrap64 (wrap64 (wrap64 (a * 4) + 2 * c) + 1) = a * 4 + 2 * c + 1
      rw [w64 (x := a * 4) (by omega) (by omega), w64 (x := a * 4 + 2 * c) (by omega) (by omega), w64 (by omega) (by omega)]
    · show wrap64 (wrap64 (wrap64 (a * 8) + 2 * c) + 1) = a * 8 + 2 * c + 1
      rw [w64 (x := a * 8) (by omega) (by omega), w64 (x := a * 8 + 2 * c) (by omega) (by omega), w64 (by omega) (by omega)]
    · show wrap64 (wrap64 (wrap64 (a * 16) + 2 * c) + 1) = a * 16 + 2 * c + 1
      rw [w64 (x := a * 16) (by omega) (by omega), w64 (x := a * 16 + 2 * c) (by omega) (by omega), w64 (by omega) (by omega)]
  rw [e3, e4]
def okF (a b c d s : Int) : Bool := (decide (-1000 ≤ a) && decide (a ≤ 1000)) && ((decide (-1000 ≤ b) && decide (b ≤ 1000)) && ((decide (1 ≤ c) && decide (c ≤ 32)) && ((decide (1 ≤ d) && decide (d ≤ 32)) && (decide (0 ≤ s) && decide (s ≤ 3)))))
theorem and_if (b c : Bool) : (if b = true then some c else some false) = some (b && c) := by cases b <;> rfl
theorem spec_ok (a b c d s : Int) : spec_l29Ok.f a b c d s = some (okF a b c d s) := by
  unfold spec_l29Ok.f okF
  simp only [in_eq, Option.bind_some, and_if]
theorem impl_ok (a b c d s : Int) : impl_ValidFrame.f a b c d s = some (okF a b c d s) := by
  unfold impl_ValidFrame.f okF impl_isScale.f
  simp only [within_eq, Option.bind_some, and_if]
theorem eq_self (x0 x1 x2 x3 x4 x5 : Int) : laws_eqPoint.f x0 x1 x2 x3 x4 x5 x0 x1 x2 x3 x4 x5 = some true := by
  unfold laws_eqPoint.f laws_eqNum.f
  simp
theorem centers (a b c d s x y : Int) (k : Nat) : ∃ r, spec_CellCenter.f (k + 2) a b c d s x y = some r ∧ impl_CellCenter.f a b c d s x y = some r := by
  unfold spec_CellCenter.f impl_CellCenter.f
  simp only [spec_ok, impl_ok, in_eq, within_eq, Option.bind_some]
  by_cases h1 : okF a b c d s = true
  · rw [if_pos h1, if_pos h1]
    simp only [okF, Bool.and_eq_true, decide_eq_true_eq] at h1
    rw [w64 (x := c - 1) (by omega) (by omega), w64 (x := d - 1) (by omega) (by omega)]
    by_cases h2 : (decide (0 ≤ x) && decide (x ≤ c - 1)) = true
    · rw [if_pos h2, if_pos h2]
      simp only [Bool.and_eq_true, decide_eq_true_eq] at h2
      by_cases h3 : (decide (0 ≤ y) && decide (y ≤ d - 1)) = true
      · rw [if_pos h3, if_pos h3]
        simp only [Bool.and_eq_true, decide_eq_true_eq] at h3
        rw [spec_center c d (by omega) (by omega) (by omega) (by omega) (by omega) (by omega) (by omega) (by omega) (by omega) (by omega)]
        unfold impl_Frame_center.f
        rw [impl_at _ _ _ _ (by omega) (by omega) (by omega) (by omega) (by omega) (by omega)]
        simp only [Option.bind_some]
        rw [impl_at _ _ _ _ (by omega) (by omega) (by omega) (by omega) (by omega) (by omega)]
        exact ⟨_, rfl, rfl⟩
      · rw [if_neg h3, if_neg h3]; exact ⟨_, rfl, rfl⟩
    · rw [if_neg h2, if_neg h2]; exact ⟨_, rfl, rfl⟩
  · rw [if_neg h1, if_neg h1]; exact ⟨_, rfl, rfl⟩
theorem FnExactCellCenter : FnExactCellCenter.Stat := by
  intro f x y _ _ _
  refine ⟨2, ?_⟩
  obtain ⟨r, h1, h2⟩ := centers f.f0 f.f1 f.f2 f.f3 f.f4 x y 0
  unfold laws_FnExactCellCenter.f laws_toFrame.f
  simp only [Option.bind_some]
  rw [h1, h2]
  simp only [Option.bind_some, eq_self]
  simp
end Go.Proofs.Ytfmkbcmoibhffaa.Pure
