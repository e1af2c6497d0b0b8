/- '>', '>=' and '<=' on texts, as the printed functions tell them. -/
import Derived.Test.YteadienaeapaeaaDoorZnoShort
import Derived.Laws.Strings
namespace Go.Proofs.YteadienaeapaeaaDoor.Text
open Go
theorem less_turned : ∀ x y : List UInt8, (!(Op.bytesLess x y || x == y)) = Op.bytesLess y x
  | [], [] => rfl
  | [], _ :: _ => rfl
  | _ :: _, [] => rfl
  | a :: x, b :: y => by
    have ih := less_turned x y
    by_cases h1 : a < b
    · have h2 : ¬ b < a := by rw [UInt8.lt_iff_toNat_lt] at h1 ⊢; omega
      have h3 : ¬ b = a := by rintro rfl; exact absurd h1 (by rw [UInt8.lt_iff_toNat_lt]; omega)
      simp [Op.bytesLess, h1, h2, h3]
    · by_cases h3 : a = b
      · subst h3
        have h2 : ¬ a < a := h1
        simp only [Op.bytesLess, h2, decide_false, Bool.false_or, beq_self_eq_true, Bool.true_and, List.cons_beq_cons]
        exact ih
      · have h2 : b < a := by
          rw [UInt8.lt_iff_toNat_lt] at h1 ⊢
          have : a.toNat ≠ b.toNat := fun e => h3 (UInt8.toNat_inj.mp e)
          omega
        simp [Op.bytesLess, h1, h2, h3]
theorem text_gtr (t : TypeId) (a b : ByteArray) : binOp .gtr t (.string a) (.string b) = pure (.bool (Op.bytesLess b.toList a.toList)) := by
  rw [← less_turned]; simp [binOp, Op.stringOp]
theorem text_geq (t : TypeId) (a b : ByteArray) : binOp .geq t (.string a) (.string b) = pure (.bool !(Op.bytesLess a.toList b.toList)) := by simp [binOp, Op.stringOp]
theorem text_leq (t : TypeId) (a b : ByteArray) : binOp .leq t (.string a) (.string b) = pure (.bool !(Op.bytesLess b.toList a.toList)) := by
  rw [← less_turned, Bool.not_not]; simp [binOp, Op.stringOp]
end Go.Proofs.YteadienaeapaeaaDoor.Text
