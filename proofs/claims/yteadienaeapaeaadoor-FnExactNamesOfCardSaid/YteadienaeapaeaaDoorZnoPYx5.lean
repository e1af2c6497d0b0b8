-- Made by a program of this session (myprint.py) out of the translation.
import Derived.Test.YteadienaeapaeaaDoorZnoPYx0
import Derived.Test.YteadienaeapaeaaDoorZnoPYx4
import Derived.Shelf.Strings.SlTrimAscii
import Derived.Shelf.Small.Strs
import Derived.Test.YteadienaeapaeaaDoorZnoLayTrim
import Derived.Test.YteadienaeapaeaaDoorZnoLayIndexByte
namespace Go.Proofs.YteadienaeapaeaaDoor.PY
open Go.Proofs.YteadienaeapaeaaDoor.Dyn
open Go.RowKit Go.Proofs.YteadienaeapaeaaDoorW.PrintWords Go.Proofs.YteadienaeapaeaaDoorW.PrintLast Go.Proofs.YteadienaeapaeaaDoorW.PrintMore
attribute [local go_sem] max2_int min2_int max_two min_two max_three min_three max_four min_four   -- for this text's walks alone
set_option linter.unusedVariables false
set_option linter.unusedSimpArgs false

/-! ### impl_IsName: function 52 -/
def nameCut : ByteArray := ⟨#[97, 98, 99, 100, 101, 102, 103, 104, 105, 106, 107, 108, 109, 110, 111, 112, 113, 114, 115, 116, 117, 118, 119, 120, 121, 122, 65, 66, 67, 68, 69, 70, 71, 72, 73, 74, 75, 76, 77, 78, 79, 80, 81, 82, 83, 84, 85, 86, 87, 88, 89, 90, 48, 49, 50, 51, 52, 53, 54, 55, 56, 57, 95]⟩
def nameLetters : ByteArray := ⟨#[97, 98, 99, 100, 101, 102, 103, 104, 105, 106, 107, 108, 109, 110, 111, 112, 113, 114, 115, 116, 117, 118, 119, 120, 121, 122, 65, 66, 67, 68, 69, 70, 71, 72, 73, 74, 75, 76, 77, 78, 79, 80, 81, 82, 83, 84, 85, 86, 87, 88, 89, 90]⟩
def nameB (s : ByteArray) : Bool := decide (1 ≤ s.size) && (decide (s.size ≤ 12) && (decide (Lib.trimS s.data.toList nameCut.data.toList = []) && decide (0 ≤ Lib.indexByte nameLetters.data.toList (bt s 0).toNat.toUInt8)))
def impl_IsName.f (k : Nat) (a0 : ByteArray) : Option Bool := if a0.size ≤ 9223372036854775807 then some (nameB a0) else none
theorem impl_IsName.mono : ∀ a0 k, LeO (impl_IsName.f k a0) (impl_IsName.f (k + 1) a0) := fun _ _ => LeO.refl _
set_option maxRecDepth 100000 in
set_option maxHeartbeats 8000000 in
theorem impl_IsName.calls (k : Nat) (a0 : ByteArray) (r : Bool) (w : World) (h : impl_IsName.f k a0 = some r) :
    Calls Tryd.prog 52 #[.string a0] w fun e w' => e = .returned (.bool r) ∧ Below w.heap.size w w' := by
  unfold impl_IsName.f at h
  by_cases hl : a0.size ≤ 9223372036854775807
  · rw [if_pos hl] at h
    obtain rfl := Option.some.inj h
    clear h
    have hwi : impl_within.f (a0.size : Int) 1 12 = some (decide (1 ≤ a0.size) && decide (a0.size ≤ 12)) := by
      unfold impl_within.f
      by_cases h1 : (a0.size : Int) ≥ 1
      · rw [if_pos h1, decide_eq_true (show 1 ≤ a0.size by omega), Bool.true_and]
        congr 1
        rw [Bool.eq_iff_iff]; simp; omega
      · rw [if_neg h1, decide_eq_false (show ¬ 1 ≤ a0.size by omega), Bool.false_and]
    by_cases hin : 1 ≤ a0.size ∧ a0.size ≤ 12
    · rw [decide_eq_true hin.1, decide_eq_true hin.2] at hwi
      go_enter Tryd.func52, Tryd.ntmps52
      have ht : ∀ w1, Calls Tryd.prog 93 #[.string a0, .string nameCut] w1 (fun e w' => e = .returned (.string ⟨(Lib.trimS a0.data.toList nameCut.data.toList).toArray⟩) ∧ Below w1.heap.size w1 w') := fun w1 => Any.strings_Trim_laid Lay.Trim (by kernel_rfl) a0 nameCut w1 hl (by decide) (ascii_of_all (by decide))
      have hi : ∀ w1, Calls Tryd.prog 86 #[.string nameLetters, .int .u8 (bt a0 0)] w1 (fun e w' => e = .returned (.int .i64 (Lib.indexByte nameLetters.data.toList (bt a0 0).toNat.toUInt8)) ∧ w' = w1) := fun w1 => Any.strings_IndexByte Lay.IndexByte nameLetters (bt a0 0) w1
      have hx : ((a0[0]'(by omega)).toNat : Int) = bt a0 0 := bt_at a0 0 (by simp; omega)
      unfold nameB
      generalize Lib.trimS a0.data.toList nameCut.data.toList = t at ht ⊢
      generalize Lib.indexByte nameLetters.data.toList (bt a0 0).toNat.toUInt8 = q at hi ⊢
      by_cases ht0 : t = []
      · subst ht0
        go_wp2_with (first | (go_at_call 53; (with_reducible refine (impl_within.calls _ _ _ _ _ hwi).mono ?_); rintro e w1 ⟨rfl, hb⟩; have HB1 := Aside0.mk hb.below; clear hb) | (go_at_call 93; refine (ht _).mono ?_; rintro e w2 ⟨rfl, hb⟩; have HB2 := Aside0.mk (below_step HB1.out hb); clear hb) | (go_at_call 86; refine (hi _).mono ?_; rintro e w3 ⟨rfl, rfl⟩))
        go_ret
        exact ⟨rfl, HB2.out⟩
      · go_wp2_with (first | (go_at_call 53; (with_reducible refine (impl_within.calls _ _ _ _ _ hwi).mono ?_); rintro e w1 ⟨rfl, hb⟩; have HB1 := Aside0.mk hb.below; clear hb) | (go_at_call 93; refine (ht _).mono ?_; rintro e w2 ⟨rfl, hb⟩; have HB2 := Aside0.mk (below_step HB1.out hb); clear hb) | (go_at_call 86; refine (hi _).mono ?_; rintro e w3 ⟨rfl, rfl⟩))
        go_ret
        exact ⟨congrArg (fun b => Ending.returned (Value.bool b)) (show false = _ by simp [ht0]), HB2.out⟩
    · have hfalse : (decide (1 ≤ a0.size) && decide (a0.size ≤ 12)) = false := by
        rw [Bool.and_eq_false_iff, decide_eq_false_iff_not, decide_eq_false_iff_not]; omega
      rw [hfalse] at hwi
      go_enter Tryd.func52, Tryd.ntmps52
      go_wp2_with (first | (go_at_call 53; (with_reducible refine (impl_within.calls _ _ _ _ _ hwi).mono ?_); rintro e w1 ⟨rfl, hb⟩; have HB1 := Aside0.mk hb.below; clear hb))
      go_ret
      exact ⟨congrArg (fun b => Ending.returned (Value.bool b)) (show false = nameB a0 by unfold nameB; rw [← Bool.and_assoc, hfalse, Bool.false_and]), HB1.out⟩
  · rw [if_neg hl] at h
    cases h

end Go.Proofs.YteadienaeapaeaaDoor.PY
