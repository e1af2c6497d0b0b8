-- Made by a program of this session (myprint.py) out of the translation.
import Derived.Test.YteadienaeapaeaaZssPTx0
import Derived.Test.YteadienaeapaeaaZssPTx10
import Derived.Test.YteadienaeapaeaaZssShort
namespace Go.Proofs.Yteadienaeapaeaa.PT
open Go.Proofs.Yteadienaeapaeaa.Short
open Go.Proofs.Yteadienaeapaeaa.Dyn
open Go.RowKit Go.Proofs.YteadienaeapaeaaW.PrintWords Go.Proofs.YteadienaeapaeaaW.PrintLast Go.Proofs.YteadienaeapaeaaW.PrintMore
attribute [local go_sem] max2_int min2_int max_two min_two max_three min_three max_four min_four   -- for this text's walks alone
set_option linter.unusedVariables false
set_option linter.unusedSimpArgs false

/-! ### laws_heldPointS: function 101 -/
def laws_heldPointS.l0 : Nat → List (S130) → Int → Int → Option (Int)
  | 0, _, _, _ => none
  | k + 1, x0, x1, x5 => if x5 < (x0.length : Int) then (if 0 ≤ x5 then (if ((rd_T130 x0 x5).f0.f0) = x1 then (if ((rd_T130 x0 x5).f0.f1) = (wrap64 (x1 + 1)) then (if ((rd_T130 x0 x5).f0.f2) = (wrap64 ((wrap64 (x1 + 1)) + 1)) then (if ((rd_T130 x0 x5).f1.f0) = (wrap64 ((wrap64 ((wrap64 (x1 + 1)) + 1)) + 1)) then (if ((rd_T130 x0 x5).f1.f1) = (wrap64 ((wrap64 ((wrap64 ((wrap64 (x1 + 1)) + 1)) + 1)) + 1)) then (if ((rd_T130 x0 x5).f1.f2) = (wrap64 ((wrap64 ((wrap64 ((wrap64 ((wrap64 (x1 + 1)) + 1)) + 1)) + 1)) + 1)) then (laws_heldPointS.l0 k x0 (wrap64 ((wrap64 ((wrap64 ((wrap64 ((wrap64 ((wrap64 (x1 + 1)) + 1)) + 1)) + 1)) + 1)) + 1)) (wrap64 (x5 + 1))) else (some (-1))) else (some (-1))) else (some (-1))) else (some (-1))) else (some (-1))) else (some (-1))) else (none)) else (some x1)
def laws_heldPointS.f (k : Nat) (l0 : List (S130)) (a1 : Int) : Option (Int) := laws_heldPointS.l0 k l0 a1 0
theorem laws_heldPointS.mono_l : ∀ k, (∀ y0 y1 y2, LeO (laws_heldPointS.l0 k y0 y1 y2) (laws_heldPointS.l0 (k + 1) y0 y1 y2))
  | 0 => fun _ _ _ r h => by simp [laws_heldPointS.l0] at h
  | k + 1 => by
    have ih0 := laws_heldPointS.mono_l k
    · intro y0 y1 y2
      unfold laws_heldPointS.l0
      repeat' first
      | (with_reducible exact ih0 _ _ _)
      | (with_reducible exact LeO.refl _)
      | (with_reducible exact LeO.none _)
      | (with_reducible refine LeO.ite ?_ ?_)
      | (with_reducible refine LeO.bind ?_ (fun _ => ?_))
      | exact ih0 _ _ _
      | exact LeO.none _
      | refine LeO.ite ?_ ?_
      | refine LeO.bind ?_ (fun _ => ?_)
theorem laws_heldPointS.mono : ∀ a0 a1 k, LeO (laws_heldPointS.f k a0 a1) (laws_heldPointS.f (k + 1) a0 a1) := by
  intro a0 a1 k
  have ih0 := laws_heldPointS.mono_l k
  unfold laws_heldPointS.f
  repeat' first
      | (with_reducible exact ih0 _ _ _)
      | (with_reducible exact LeO.refl _)
      | (with_reducible exact LeO.none _)
      | (with_reducible refine LeO.ite ?_ ?_)
      | (with_reducible refine LeO.bind ?_ (fun _ => ?_))
      | exact ih0 _ _ _
      | exact LeO.none _
      | refine LeO.ite ?_ ?_
      | refine LeO.bind ?_ (fun _ => ?_)
set_option maxHeartbeats 8000000 in
set_option maxRecDepth 100000 in
theorem laws_heldPointS.calls (k : Nat) (A0 : Option Addr) (c0 : Nat) (l0 : List (S130)) (a1 : Int) (r : Int) (w : World) (hr0 : Kd.C k130 w A0 l0.length l0) (hc0 : l0.length ≤ c0) (h : laws_heldPointS.f k l0 a1 = some r) :
    Calls Try.prog 101 #[.slice A0 l0.length c0, .int .i64 a1] w fun e w' => e = .returned (.int .i64 r) ∧ Drawn0 w w' := by
  have HR0 := Aside0.mk hr0
  have HC0 := Aside0.mk hc0
  clear hr0 hc0
  have H : (laws_heldPointS.l0 k l0 a1 0) = some r := h
  clear h
  have H' := Aside0.mk H
  clear H
  go_enter Try.func101, Try.ntmps101
  go_wp2
  go_loopg [1, 5] k (fun kq v1 v5 w' => ∃ (x1_1 : Int) (x5_1 : Int), v1 = .int .i64 x1_1 ∧ v5 = .int .i64 x5_1 ∧ Aside0 (laws_heldPointS.l0 kq l0 x1_1 x5_1 = some r) ∧ Aside0 (kq ≤ k) ∧ Drawn0 w w')
  case atStart => exact ⟨(a1), (0), (by first | rfl | (simp; done) | (simp [*]; done)), (by first | rfl | (simp; done) | (simp [*]; done)), H', ⟨Nat.le_refl _⟩, by repeat (first | exact Drawn0.refl _ | apply Drawn0.step)⟩
  case round =>
    clear H'
    try clear c1
    try clear p2
    obtain ⟨x1_1, x5_1, rfl, rfl, HA, HK1, ⟨m1, rfl⟩⟩ := hrel
    cases gk with
    | zero => exact absurd HA.out (by simp [laws_heldPointS.l0])
    | succ k1 =>
      have H := HA.out
      clear HA
      simp only [laws_heldPointS.l0] at H
      by_cases c3 : x5_1 < (l0.length : Int)
      · rw [if_pos c3] at H
        have c3b0 : decide (x5_1 < (l0.length : Int)) = true := decide_eq_true c3
        clear c3
        by_cases c4 : 0 ≤ x5_1
        · rw [if_pos c4] at H
          have c4b0 : decide (0 ≤ x5_1) = true := decide_eq_true c4
          clear c4
          by_cases c5 : ((rd_T130 l0 x5_1).f0.f0) = x1_1
          · rw [if_pos c5] at H
            have c5b0 : (((rd_T130 l0 x5_1).f0.f0) == x1_1) = true := beq_iff_eq.mpr c5
            have c5b1 : (((rd_T130 l0 x5_1).f0.f0) != x1_1) = false := bne_eq_false_iff_eq.mpr c5
            clear c5
            by_cases c6 : ((rd_T130 l0 x5_1).f0.f1) = (wrap64 (x1_1 + 1))
            · rw [if_pos c6] at H
              have c6b0 : (((rd_T130 l0 x5_1).f0.f1) == (wrap64 (x1_1 + 1))) = true := beq_iff_eq.mpr c6
              have c6b1 : (((rd_T130 l0 x5_1).f0.f1) != (wrap64 (x1_1 + 1))) = false := bne_eq_false_iff_eq.mpr c6
              clear c6
              by_cases c7 : ((rd_T130 l0 x5_1).f0.f2) = (wrap64 ((wrap64 (x1_1 + 1)) + 1))
              · rw [if_pos c7] at H
                have c7b0 : (((rd_T130 l0 x5_1).f0.f2) == (wrap64 ((wrap64 (x1_1 + 1)) + 1))) = true := beq_iff_eq.mpr c7
                have c7b1 : (((rd_T130 l0 x5_1).f0.f2) != (wrap64 ((wrap64 (x1_1 + 1)) + 1))) = false := bne_eq_false_iff_eq.mpr c7
                clear c7
                by_cases c8 : ((rd_T130 l0 x5_1).f1.f0) = (wrap64 ((wrap64 ((wrap64 (x1_1 + 1)) + 1)) + 1))
                · rw [if_pos c8] at H
                  have c8b0 : (((rd_T130 l0 x5_1).f1.f0) == (wrap64 ((wrap64 ((wrap64 (x1_1 + 1)) + 1)) + 1))) = true := beq_iff_eq.mpr c8
                  have c8b1 : (((rd_T130 l0 x5_1).f1.f0) != (wrap64 ((wrap64 ((wrap64 (x1_1 + 1)) + 1)) + 1))) = false := bne_eq_false_iff_eq.mpr c8
                  clear c8
                  by_cases c9 : ((rd_T130 l0 x5_1).f1.f1) = (wrap64 ((wrap64 ((wrap64 ((wrap64 (x1_1 + 1)) + 1)) + 1)) + 1))
                  · rw [if_pos c9] at H
                    have c9b0 : (((rd_T130 l0 x5_1).f1.f1) == (wrap64 ((wrap64 ((wrap64 ((wrap64 (x1_1 + 1)) + 1)) + 1)) + 1))) = true := beq_iff_eq.mpr c9
                    have c9b1 : (((rd_T130 l0 x5_1).f1.f1) != (wrap64 ((wrap64 ((wrap64 ((wrap64 (x1_1 + 1)) + 1)) + 1)) + 1))) = false := bne_eq_false_iff_eq.mpr c9
                    clear c9
                    by_cases c10 : ((rd_T130 l0 x5_1).f1.f2) = (wrap64 ((wrap64 ((wrap64 ((wrap64 ((wrap64 (x1_1 + 1)) + 1)) + 1)) + 1)) + 1))
                    · rw [if_pos c10] at H
                      have c10b0 : (((rd_T130 l0 x5_1).f1.f2) == (wrap64 ((wrap64 ((wrap64 ((wrap64 ((wrap64 (x1_1 + 1)) + 1)) + 1)) + 1)) + 1))) = true := beq_iff_eq.mpr c10
                      have c10b1 : (((rd_T130 l0 x5_1).f1.f2) != (wrap64 ((wrap64 ((wrap64 ((wrap64 ((wrap64 (x1_1 + 1)) + 1)) + 1)) + 1)) + 1))) = false := bne_eq_false_iff_eq.mpr c10
                      clear c10
                      have H' := Aside0.mk H
                      clear H
                      have p344 : 0 ≤ (x5_1 : Int) := od
                      have q344 : x5_1 < (l0.length : Int) := od
                      obtain ⟨ad344, e344, hx344_0, hx344_1, hx344_2, hx344_3, hx344_4, hx344_5⟩ := at_T130 HR0.out x5_1 p344 q344
                      cases e344
                      replace p344 := eq_true p344
                      replace q344 := eq_true q344
                      have p345 : 0 ≤ (x5_1 : Int) := od
                      have q345 : x5_1 < (l0.length : Int) := od
                      obtain ⟨ad345, e345, hx345_0, hx345_1, hx345_2, hx345_3, hx345_4, hx345_5⟩ := at_T130 HR0.out x5_1 p345 q345
                      obtain rfl : ad344 = ad345 := (by injection e345)
                      replace p345 := eq_true p345
                      replace q345 := eq_true q345
                      have p346 : 0 ≤ (x5_1 : Int) := od
                      have q346 : x5_1 < (l0.length : Int) := od
                      obtain ⟨ad346, e346, hx346_0, hx346_1, hx346_2, hx346_3, hx346_4, hx346_5⟩ := at_T130 HR0.out x5_1 p346 q346
                      obtain rfl : ad344 = ad346 := (by injection e346)
                      replace p346 := eq_true p346
                      replace q346 := eq_true q346
                      have p347 : 0 ≤ (x5_1 : Int) := od
                      have q347 : x5_1 < (l0.length : Int) := od
                      obtain ⟨ad347, e347, hx347_0, hx347_1, hx347_2, hx347_3, hx347_4, hx347_5⟩ := at_T130 HR0.out x5_1 p347 q347
                      obtain rfl : ad344 = ad347 := (by injection e347)
                      replace p347 := eq_true p347
                      replace q347 := eq_true q347
                      have p348 : 0 ≤ (x5_1 : Int) := od
                      have q348 : x5_1 < (l0.length : Int) := od
                      obtain ⟨ad348, e348, hx348_0, hx348_1, hx348_2, hx348_3, hx348_4, hx348_5⟩ := at_T130 HR0.out x5_1 p348 q348
                      obtain rfl : ad344 = ad348 := (by injection e348)
                      replace p348 := eq_true p348
                      replace q348 := eq_true q348
                      have p349 : 0 ≤ (x5_1 : Int) := od
                      have q349 : x5_1 < (l0.length : Int) := od
                      obtain ⟨ad349, e349, hx349_0, hx349_1, hx349_2, hx349_3, hx349_4, hx349_5⟩ := at_T130 HR0.out x5_1 p349 q349
                      obtain rfl : ad344 = ad349 := (by injection e349)
                      replace p349 := eq_true p349
                      replace q349 := eq_true q349
                      go_wp2
                      go_roundg k1
                      case measure => have := HK1.out; omega
                      case rel => exact ⟨(wrap64 ((wrap64 ((wrap64 ((wrap64 ((wrap64 ((wrap64 (x1_1 + 1)) + 1)) + 1)) + 1)) + 1)) + 1)), (wrap64 (x5_1 + 1)), (by first | rfl | (simp; done) | (simp [*]; done)), (by first | rfl | (simp; done) | (simp [*]; done)), H', ⟨by have := HK1.out; omega⟩, by repeat (first | exact Drawn0.refl _ | apply Drawn0.step)⟩
                    · rw [if_neg c10] at H
                      have c10b0 : (((rd_T130 l0 x5_1).f1.f2) == (wrap64 ((wrap64 ((wrap64 ((wrap64 ((wrap64 (x1_1 + 1)) + 1)) + 1)) + 1)) + 1))) = false := beq_eq_false_iff_ne.mpr c10
                      have c10b1 : (((rd_T130 l0 x5_1).f1.f2) != (wrap64 ((wrap64 ((wrap64 ((wrap64 ((wrap64 (x1_1 + 1)) + 1)) + 1)) + 1)) + 1))) = true := bne_iff_ne.mpr c10
                      obtain rfl := Option.some.inj H
                      have p344 : 0 ≤ (x5_1 : Int) := od
                      have q344 : x5_1 < (l0.length : Int) := od
                      obtain ⟨ad344, e344, hx344_0, hx344_1, hx344_2, hx344_3, hx344_4, hx344_5⟩ := at_T130 HR0.out x5_1 p344 q344
                      cases e344
                      replace p344 := eq_true p344
                      replace q344 := eq_true q344
                      have p345 : 0 ≤ (x5_1 : Int) := od
                      have q345 : x5_1 < (l0.length : Int) := od
                      obtain ⟨ad345, e345, hx345_0, hx345_1, hx345_2, hx345_3, hx345_4, hx345_5⟩ := at_T130 HR0.out x5_1 p345 q345
                      obtain rfl : ad344 = ad345 := (by injection e345)
                      replace p345 := eq_true p345
                      replace q345 := eq_true q345
                      have p346 : 0 ≤ (x5_1 : Int) := od
                      have q346 : x5_1 < (l0.length : Int) := od
                      obtain ⟨ad346, e346, hx346_0, hx346_1, hx346_2, hx346_3, hx346_4, hx346_5⟩ := at_T130 HR0.out x5_1 p346 q346
                      obtain rfl : ad344 = ad346 := (by injection e346)
                      replace p346 := eq_true p346
                      replace q346 := eq_true q346
                      have p347 : 0 ≤ (x5_1 : Int) := od
                      have q347 : x5_1 < (l0.length : Int) := od
                      obtain ⟨ad347, e347, hx347_0, hx347_1, hx347_2, hx347_3, hx347_4, hx347_5⟩ := at_T130 HR0.out x5_1 p347 q347
                      obtain rfl : ad344 = ad347 := (by injection e347)
                      replace p347 := eq_true p347
                      replace q347 := eq_true q347
                      have p348 : 0 ≤ (x5_1 : Int) := od
                      have q348 : x5_1 < (l0.length : Int) := od
                      obtain ⟨ad348, e348, hx348_0, hx348_1, hx348_2, hx348_3, hx348_4, hx348_5⟩ := at_T130 HR0.out x5_1 p348 q348
                      obtain rfl : ad344 = ad348 := (by injection e348)
                      replace p348 := eq_true p348
                      replace q348 := eq_true q348
                      have p349 : 0 ≤ (x5_1 : Int) := od
                      have q349 : x5_1 < (l0.length : Int) := od
                      obtain ⟨ad349, e349, hx349_0, hx349_1, hx349_2, hx349_3, hx349_4, hx349_5⟩ := at_T130 HR0.out x5_1 p349 q349
                      obtain rfl : ad344 = ad349 := (by injection e349)
                      replace p349 := eq_true p349
                      replace q349 := eq_true q349
                      go_wp2
                      go_ret
                      exact ⟨by first | rfl | (simp; done) | (simp [*]; done), by repeat (first | exact Drawn0.refl _ | apply Drawn0.step)⟩
                  · rw [if_neg c9] at H
                    have c9b0 : (((rd_T130 l0 x5_1).f1.f1) == (wrap64 ((wrap64 ((wrap64 ((wrap64 (x1_1 + 1)) + 1)) + 1)) + 1))) = false := beq_eq_false_iff_ne.mpr c9
                    have c9b1 : (((rd_T130 l0 x5_1).f1.f1) != (wrap64 ((wrap64 ((wrap64 ((wrap64 (x1_1 + 1)) + 1)) + 1)) + 1))) = true := bne_iff_ne.mpr c9
                    obtain rfl := Option.some.inj H
                    have p344 : 0 ≤ (x5_1 : Int) := od
                    have q344 : x5_1 < (l0.length : Int) := od
                    obtain ⟨ad344, e344, hx344_0, hx344_1, hx344_2, hx344_3, hx344_4, hx344_5⟩ := at_T130 HR0.out x5_1 p344 q344
                    cases e344
                    replace p344 := eq_true p344
                    replace q344 := eq_true q344
                    have p345 : 0 ≤ (x5_1 : Int) := od
                    have q345 : x5_1 < (l0.length : Int) := od
                    obtain ⟨ad345, e345, hx345_0, hx345_1, hx345_2, hx345_3, hx345_4, hx345_5⟩ := at_T130 HR0.out x5_1 p345 q345
                    obtain rfl : ad344 = ad345 := (by injection e345)
                    replace p345 := eq_true p345
                    replace q345 := eq_true q345
                    have p346 : 0 ≤ (x5_1 : Int) := od
                    have q346 : x5_1 < (l0.length : Int) := od
                    obtain ⟨ad346, e346, hx346_0, hx346_1, hx346_2, hx346_3, hx346_4, hx346_5⟩ := at_T130 HR0.out x5_1 p346 q346
                    obtain rfl : ad344 = ad346 := (by injection e346)
                    replace p346 := eq_true p346
                    replace q346 := eq_true q346
                    have p347 : 0 ≤ (x5_1 : Int) := od
                    have q347 : x5_1 < (l0.length : Int) := od
                    obtain ⟨ad347, e347, hx347_0, hx347_1, hx347_2, hx347_3, hx347_4, hx347_5⟩ := at_T130 HR0.out x5_1 p347 q347
                    obtain rfl : ad344 = ad347 := (by injection e347)
                    replace p347 := eq_true p347
                    replace q347 := eq_true q347
                    have p348 : 0 ≤ (x5_1 : Int) := od
                    have q348 : x5_1 < (l0.length : Int) := od
                    obtain ⟨ad348, e348, hx348_0, hx348_1, hx348_2, hx348_3, hx348_4, hx348_5⟩ := at_T130 HR0.out x5_1 p348 q348
                    obtain rfl : ad344 = ad348 := (by injection e348)
                    replace p348 := eq_true p348
                    replace q348 := eq_true q348
                    go_wp2
                    go_ret
                    exact ⟨by first | rfl | (simp; done) | (simp [*]; done), by repeat (first | exact Drawn0.refl _ | apply Drawn0.step)⟩
                · rw [if_neg c8] at H
                  have c8b0 : (((rd_T130 l0 x5_1).f1.f0) == (wrap64 ((wrap64 ((wrap64 (x1_1 + 1)) + 1)) + 1))) = false := beq_eq_false_iff_ne.mpr c8
                  have c8b1 : (((rd_T130 l0 x5_1).f1.f0) != (wrap64 ((wrap64 ((wrap64 (x1_1 + 1)) + 1)) + 1))) = true := bne_iff_ne.mpr c8
                  obtain rfl := Option.some.inj H
                  have p344 : 0 ≤ (x5_1 : Int) := od
                  have q344 : x5_1 < (l0.length : Int) := od
                  obtain ⟨ad344, e344, hx344_0, hx344_1, hx344_2, hx344_3, hx344_4, hx344_5⟩ := at_T130 HR0.out x5_1 p344 q344
                  cases e344
                  replace p344 := eq_true p344
                  replace q344 := eq_true q344
                  have p345 : 0 ≤ (x5_1 : Int) := od
                  have q345 : x5_1 < (l0.length : Int) := od
                  obtain ⟨ad345, e345, hx345_0, hx345_1, hx345_2, hx345_3, hx345_4, hx345_5⟩ := at_T130 HR0.out x5_1 p345 q345
                  obtain rfl : ad344 = ad345 := (by injection e345)
                  replace p345 := eq_true p345
                  replace q345 := eq_true q345
                  have p346 : 0 ≤ (x5_1 : Int) := od
                  have q346 : x5_1 < (l0.length : Int) := od
                  obtain ⟨ad346, e346, hx346_0, hx346_1, hx346_2, hx346_3, hx346_4, hx346_5⟩ := at_T130 HR0.out x5_1 p346 q346
                  obtain rfl : ad344 = ad346 := (by injection e346)
                  replace p346 := eq_true p346
                  replace q346 := eq_true q346
                  have p347 : 0 ≤ (x5_1 : Int) := od
                  have q347 : x5_1 < (l0.length : Int) := od
                  obtain ⟨ad347, e347, hx347_0, hx347_1, hx347_2, hx347_3, hx347_4, hx347_5⟩ := at_T130 HR0.out x5_1 p347 q347
                  obtain rfl : ad344 = ad347 := (by injection e347)
                  replace p347 := eq_true p347
                  replace q347 := eq_true q347
                  go_wp2
                  go_ret
                  exact ⟨by first | rfl | (simp; done) | (simp [*]; done), by repeat (first | exact Drawn0.refl _ | apply Drawn0.step)⟩
              · rw [if_neg c7] at H
                have c7b0 : (((rd_T130 l0 x5_1).f0.f2) == (wrap64 ((wrap64 (x1_1 + 1)) + 1))) = false := beq_eq_false_iff_ne.mpr c7
                have c7b1 : (((rd_T130 l0 x5_1).f0.f2) != (wrap64 ((wrap64 (x1_1 + 1)) + 1))) = true := bne_iff_ne.mpr c7
                obtain rfl := Option.some.inj H
                have p344 : 0 ≤ (x5_1 : Int) := od
                have q344 : x5_1 < (l0.length : Int) := od
                obtain ⟨ad344, e344, hx344_0, hx344_1, hx344_2, hx344_3, hx344_4, hx344_5⟩ := at_T130 HR0.out x5_1 p344 q344
                cases e344
                replace p344 := eq_true p344
                replace q344 := eq_true q344
                have p345 : 0 ≤ (x5_1 : Int) := od
                have q345 : x5_1 < (l0.length : Int) := od
                obtain ⟨ad345, e345, hx345_0, hx345_1, hx345_2, hx345_3, hx345_4, hx345_5⟩ := at_T130 HR0.out x5_1 p345 q345
                obtain rfl : ad344 = ad345 := (by injection e345)
                replace p345 := eq_true p345
                replace q345 := eq_true q345
                have p346 : 0 ≤ (x5_1 : Int) := od
                have q346 : x5_1 < (l0.length : Int) := od
                obtain ⟨ad346, e346, hx346_0, hx346_1, hx346_2, hx346_3, hx346_4, hx346_5⟩ := at_T130 HR0.out x5_1 p346 q346
                obtain rfl : ad344 = ad346 := (by injection e346)
                replace p346 := eq_true p346
                replace q346 := eq_true q346
                go_wp2
                go_ret
                exact ⟨by first | rfl | (simp; done) | (simp [*]; done), by repeat (first | exact Drawn0.refl _ | apply Drawn0.step)⟩
            · rw [if_neg c6] at H
              have c6b0 : (((rd_T130 l0 x5_1).f0.f1) == (wrap64 (x1_1 + 1))) = false := beq_eq_false_iff_ne.mpr c6
              have c6b1 : (((rd_T130 l0 x5_1).f0.f1) != (wrap64 (x1_1 + 1))) = true := bne_iff_ne.mpr c6
              obtain rfl := Option.some.inj H
              have p344 : 0 ≤ (x5_1 : Int) := od
              have q344 : x5_1 < (l0.length : Int) := od
              obtain ⟨ad344, e344, hx344_0, hx344_1, hx344_2, hx344_3, hx344_4, hx344_5⟩ := at_T130 HR0.out x5_1 p344 q344
              cases e344
              replace p344 := eq_true p344
              replace q344 := eq_true q344
              have p345 : 0 ≤ (x5_1 : Int) := od
              have q345 : x5_1 < (l0.length : Int) := od
              obtain ⟨ad345, e345, hx345_0, hx345_1, hx345_2, hx345_3, hx345_4, hx345_5⟩ := at_T130 HR0.out x5_1 p345 q345
              obtain rfl : ad344 = ad345 := (by injection e345)
              replace p345 := eq_true p345
              replace q345 := eq_true q345
              go_wp2
              go_ret
              exact ⟨by first | rfl | (simp; done) | (simp [*]; done), by repeat (first | exact Drawn0.refl _ | apply Drawn0.step)⟩
          · rw [if_neg c5] at H
            have c5b0 : (((rd_T130 l0 x5_1).f0.f0) == x1_1) = false := beq_eq_false_iff_ne.mpr c5
            have c5b1 : (((rd_T130 l0 x5_1).f0.f0) != x1_1) = true := bne_iff_ne.mpr c5
            obtain rfl := Option.some.inj H
            have p344 : 0 ≤ (x5_1 : Int) := od
            have q344 : x5_1 < (l0.length : Int) := od
            obtain ⟨ad344, e344, hx344_0, hx344_1, hx344_2, hx344_3, hx344_4, hx344_5⟩ := at_T130 HR0.out x5_1 p344 q344
            cases e344
            replace p344 := eq_true p344
            replace q344 := eq_true q344
            go_wp2
            go_ret
            exact ⟨by first | rfl | (simp; done) | (simp [*]; done), by repeat (first | exact Drawn0.refl _ | apply Drawn0.step)⟩
        · rw [if_neg c4] at H
          exact absurd H (by simp)
      · rw [if_neg c3] at H
        have c3b0 : decide (x5_1 < (l0.length : Int)) = false := decide_eq_false c3
        clear c3
        obtain rfl := Option.some.inj H
        go_wp2
        go_ret
        exact ⟨by first | rfl | (simp; done) | (simp [*]; done), by repeat (first | exact Drawn0.refl _ | apply Drawn0.step)⟩

/-! ### laws_heldFaceS: function 102 -/
def laws_heldFaceS.l0 : Nat → List (S121) → Int → Int → Option (Int)
  | 0, _, _, _ => none
  | k + 1, x0, x1, x5 => if x5 < (x0.length : Int) then (if 0 ≤ x5 then ((laws_heldPointS.f k ((rd_T121 x0 x5).f0) x1).bind fun t351 => (if t351 < 0 then (some (-1)) else (if ((rd_T121 x0 x5).f1.f0) = t351 then (if (((rd_T121 x0 x5).f1.f1) != ((Int.tmod (wrap64 (t351 + 1)) 3) == 0)) = true then (some (-1)) else (if ((rd_T121 x0 x5).f1.f2.f0) = (wrap64 ((wrap64 (t351 + 1)) + 1)) then (if ((rd_T121 x0 x5).f1.f2.f1) = (wrap64 ((wrap64 ((wrap64 (t351 + 1)) + 1)) + 1)) then (if ((rd_T121 x0 x5).f1.f2.f2) = (wrap64 ((wrap64 ((wrap64 ((wrap64 (t351 + 1)) + 1)) + 1)) + 1)) then (if ((rd_T121 x0 x5).f1.f3.f0) = (wrap64 ((wrap64 ((wrap64 ((wrap64 ((wrap64 (t351 + 1)) + 1)) + 1)) + 1)) + 1)) then (if ((rd_T121 x0 x5).f1.f3.f1) = (wrap64 ((wrap64 ((wrap64 ((wrap64 ((wrap64 ((wrap64 (t351 + 1)) + 1)) + 1)) + 1)) + 1)) + 1)) then (if ((rd_T121 x0 x5).f1.f3.f2) = (wrap64 ((wrap64 ((wrap64 ((wrap64 ((wrap64 ((wrap64 ((wrap64 (t351 + 1)) + 1)) + 1)) + 1)) + 1)) + 1)) + 1)) then (laws_heldFaceS.l0 k x0 (wrap64 ((wrap64 ((wrap64 ((wrap64 ((wrap64 ((wrap64 ((wrap64 ((wrap64 (t351 + 1)) + 1)) + 1)) + 1)) + 1)) + 1)) + 1)) + 1)) (wrap64 (x5 + 1))) else (some (-1))) else (some (-1))) else (some (-1))) else (some (-1))) else (some (-1))) else (some (-1)))) else (some (-1))))) else (none)) else (some x1)
def laws_heldFaceS.f (k : Nat) (l0 : List (S121)) (a1 : Int) : Option (Int) := laws_heldFaceS.l0 k l0 a1 0
theorem laws_heldFaceS.mono_l : ∀ k, (∀ y0 y1 y2, LeO (laws_heldFaceS.l0 k y0 y1 y2) (laws_heldFaceS.l0 (k + 1) y0 y1 y2))
  | 0 => fun _ _ _ r h => by simp [laws_heldFaceS.l0] at h
  | k + 1 => by
    have ih0 := laws_heldFaceS.mono_l k
    · intro y0 y1 y2
      unfold laws_heldFaceS.l0
      repeat' first
      | (with_reducible exact ih0 _ _ _)
      | (with_reducible exact laws_heldPointS.mono _ _ _)
      | (with_reducible exact LeO.refl _)
      | (with_reducible exact LeO.none _)
      | (with_reducible refine LeO.ite ?_ ?_)
      | (with_reducible refine LeO.bind ?_ (fun _ => ?_))
      | exact ih0 _ _ _
      | exact laws_heldPointS.mono _ _ _
      | exact LeO.none _
      | refine LeO.ite ?_ ?_
      | refine LeO.bind ?_ (fun _ => ?_)
theorem laws_heldFaceS.mono : ∀ a0 a1 k, LeO (laws_heldFaceS.f k a0 a1) (laws_heldFaceS.f (k + 1) a0 a1) := by
  intro a0 a1 k
  have ih0 := laws_heldFaceS.mono_l k
  unfold laws_heldFaceS.f
  repeat' first
      | (with_reducible exact ih0 _ _ _)
      | (with_reducible exact laws_heldPointS.mono _ _ _)
      | (with_reducible exact LeO.refl _)
      | (with_reducible exact LeO.none _)
      | (with_reducible refine LeO.ite ?_ ?_)
      | (with_reducible refine LeO.bind ?_ (fun _ => ?_))
      | exact ih0 _ _ _
      | exact laws_heldPointS.mono _ _ _
      | exact LeO.none _
      | refine LeO.ite ?_ ?_
      | refine LeO.bind ?_ (fun _ => ?_)
set_option maxHeartbeats 8000000 in
set_option maxRecDepth 100000 in
theorem laws_heldFaceS.calls (k : Nat) (A0 : Option Addr) (c0 : Nat) (l0 : List (S121)) (a1 : Int) (r : Int) (w : World) (hr0 : Kd.C k121 w A0 l0.length l0) (hc0 : l0.length ≤ c0) (h : laws_heldFaceS.f k l0 a1 = some r) :
    Calls Try.prog 102 #[.slice A0 l0.length c0, .int .i64 a1] w fun e w' => e = .returned (.int .i64 r) ∧ Drawn0 w w' := by
  have HR0 := Aside0.mk hr0
  have HC0 := Aside0.mk hc0
  clear hr0 hc0
  have H : (laws_heldFaceS.l0 k l0 a1 0) = some r := h
  clear h
  have H' := Aside0.mk H
  clear H
  go_enter Try.func102, Try.ntmps102
  go_wp2
  go_loopg [1, 5] k (fun kq v1 v5 w' => ∃ (x1_1 : Int) (x5_1 : Int), v1 = .int .i64 x1_1 ∧ v5 = .int .i64 x5_1 ∧ Aside0 (laws_heldFaceS.l0 kq l0 x1_1 x5_1 = some r) ∧ Aside0 (kq ≤ k) ∧ Drawn0 w w')
  case atStart => exact ⟨(a1), (0), (by first | rfl | (simp; done) | (simp [*]; done)), (by first | rfl | (simp; done) | (simp [*]; done)), H', ⟨Nat.le_refl _⟩, by repeat (first | exact Drawn0.refl _ | apply Drawn0.step)⟩
  case round =>
    clear H'
    try clear c1
    try clear p2
    obtain ⟨x1_1, x5_1, rfl, rfl, HA, HK1, ⟨m1, rfl⟩⟩ := hrel
    cases gk with
    | zero => exact absurd HA.out (by simp [laws_heldFaceS.l0])
    | succ k1 =>
      have H := HA.out
      clear HA
      simp only [laws_heldFaceS.l0] at H
      by_cases c3 : x5_1 < (l0.length : Int)
      · rw [if_pos c3] at H
        have c3b0 : decide (x5_1 < (l0.length : Int)) = true := decide_eq_true c3
        clear c3
        by_cases c4 : 0 ≤ x5_1
        · rw [if_pos c4] at H
          have c4b0 : decide (0 ≤ x5_1) = true := decide_eq_true c4
          clear c4
          replace H := Option.bind_eq_some_iff.mp H
          obtain ⟨t351, A50, H⟩ := H
          replace H : (if t351 < 0 then (some (-1)) else (if ((rd_T121 l0 x5_1).f1.f0) = t351 then (if (((rd_T121 l0 x5_1).f1.f1) != ((Int.tmod (wrap64 (t351 + 1)) 3) == 0)) = true then (some (-1)) else (if ((rd_T121 l0 x5_1).f1.f2.f0) = (wrap64 ((wrap64 (t351 + 1)) + 1)) then (if ((rd_T121 l0 x5_1).f1.f2.f1) = (wrap64 ((wrap64 ((wrap64 (t351 + 1)) + 1)) + 1)) then (if ((rd_T121 l0 x5_1).f1.f2.f2) = (wrap64 ((wrap64 ((wrap64 ((wrap64 (t351 + 1)) + 1)) + 1)) + 1)) then (if ((rd_T121 l0 x5_1).f1.f3.f0) = (wrap64 ((wrap64 ((wrap64 ((wrap64 ((wrap64 (t351 + 1)) + 1)) + 1)) + 1)) + 1)) then (if ((rd_T121 l0 x5_1).f1.f3.f1) = (wrap64 ((wrap64 ((wrap64 ((wrap64 ((wrap64 ((wrap64 (t351 + 1)) + 1)) + 1)) + 1)) + 1)) + 1)) then (if ((rd_T121 l0 x5_1).f1.f3.f2) = (wrap64 ((wrap64 ((wrap64 ((wrap64 ((wrap64 ((wrap64 ((wrap64 (t351 + 1)) + 1)) + 1)) + 1)) + 1)) + 1)) + 1)) then (laws_heldFaceS.l0 k1 l0 (wrap64 ((wrap64 ((wrap64 ((wrap64 ((wrap64 ((wrap64 ((wrap64 ((wrap64 (t351 + 1)) + 1)) + 1)) + 1)) + 1)) + 1)) + 1)) + 1)) (wrap64 (x5_1 + 1))) else (some (-1))) else (some (-1))) else (some (-1))) else (some (-1))) else (some (-1))) else (some (-1)))) else (some (-1)))) = some r := H
          have A5 := Aside0.mk A50
          clear A50
          by_cases c6 : t351 < 0
          · rw [if_pos c6] at H
            have c6b0 : decide (t351 < 0) = true := decide_eq_true c6
            clear c6
            obtain rfl := Option.some.inj H
            have p350 : 0 ≤ (x5_1 : Int) := od
            have q350 : x5_1 < (l0.length : Int) := od
            obtain ⟨ad350, A350_0, c350_0, e350, hx350_0, hx350_1, hx350_2, hx350_3, hx350_4, hx350_5, hx350_6, hx350_7, hx350_8, hl350_0, hi350_0⟩ := at_T121 HR0.out x5_1 p350 q350
            cases e350
            have HR350_0 := Aside0.mk hi350_0
            have HC350_0 := Aside0.mk hl350_0
            clear hi350_0 hl350_0
            replace p350 := eq_true p350
            replace q350 := eq_true q350
            go_wp2_with (first | ((with_reducible refine gate_callee (f := 101) rfl ?_); refine gl (some 18) Try.func101 #[.slice A350_0 ((rd_T121 l0 x5_1).f0).length c350_0, .int .i64 x1_1] ?_; (with_reducible refine (laws_heldPointS.calls k1 _ _ ((rd_T121 l0 x5_1).f0) x1_1 t351 _ ?side1 ?side2 A5.out).mono ?_); (case side1 => repeat (first | exact HR350_0.out | (with_reducible refine Kd.C_alloc ?_ _) | (with_reducible refine Kd.C_drewN ?_ _) | (with_reducible refine Kd.C_drew ?_))); (case side2 => exact HC350_0.out); rintro e w' ⟨rfl, ⟨nd, rfl⟩⟩; refine ⟨_, rfl, ?_⟩))
            go_ret
            exact ⟨by first | rfl | (simp; done) | (simp [*]; done), by repeat (first | exact Drawn0.refl _ | apply Drawn0.step)⟩
          · rw [if_neg c6] at H
            have c6b0 : decide (t351 < 0) = false := decide_eq_false c6
            clear c6
            by_cases c7 : ((rd_T121 l0 x5_1).f1.f0) = t351
            · rw [if_pos c7] at H
              have c7b0 : (((rd_T121 l0 x5_1).f1.f0) == t351) = true := beq_iff_eq.mpr c7
              have c7b1 : (((rd_T121 l0 x5_1).f1.f0) != t351) = false := bne_eq_false_iff_eq.mpr c7
              clear c7
              by_cases c8 : (((rd_T121 l0 x5_1).f1.f1) != ((Int.tmod (wrap64 (t351 + 1)) 3) == 0)) = true
              · rw [if_pos c8] at H
                have c8b0 : (((rd_T121 l0 x5_1).f1.f1) != ((Int.tmod (wrap64 (t351 + 1)) 3) == 0)) = true := c8
                (try (have c8b1 : decide (((rd_T121 l0 x5_1).f1.f1) = ((Int.tmod (wrap64 (t351 + 1)) 3) == 0)) = false := by simpa using c8))
                (try (have c8b2 : (((rd_T121 l0 x5_1).f1.f1) == ((Int.tmod (wrap64 (t351 + 1)) 3) == 0)) = false := by simpa using c8))
                (try (have c8b3 : ¬ (((rd_T121 l0 x5_1).f1.f1) = ((Int.tmod (wrap64 (t351 + 1)) 3) == 0)) := by simpa using c8))
                clear c8
                obtain rfl := Option.some.inj H
                have p350 : 0 ≤ (x5_1 : Int) := od
                have q350 : x5_1 < (l0.length : Int) := od
                obtain ⟨ad350, A350_0, c350_0, e350, hx350_0, hx350_1, hx350_2, hx350_3, hx350_4, hx350_5, hx350_6, hx350_7, hx350_8, hl350_0, hi350_0⟩ := at_T121 HR0.out x5_1 p350 q350
                cases e350
                have HR350_0 := Aside0.mk hi350_0
                have HC350_0 := Aside0.mk hl350_0
                clear hi350_0 hl350_0
                replace p350 := eq_true p350
                replace q350 := eq_true q350
                go_wp2_with (first | ((with_reducible refine gate_callee (f := 101) rfl ?_); refine gl (some 18) Try.func101 #[.slice A350_0 ((rd_T121 l0 x5_1).f0).length c350_0, .int .i64 x1_1] ?_; (with_reducible refine (laws_heldPointS.calls k1 _ _ ((rd_T121 l0 x5_1).f0) x1_1 t351 _ ?side1 ?side2 A5.out).mono ?_); (case side1 => repeat (first | exact HR350_0.out | (with_reducible refine Kd.C_alloc ?_ _) | (with_reducible refine Kd.C_drewN ?_ _) | (with_reducible refine Kd.C_drew ?_))); (case side2 => exact HC350_0.out); rintro e w' ⟨rfl, ⟨nd, rfl⟩⟩; refine ⟨_, rfl, ?_⟩; have p352 : 0 ≤ (x5_1 : Int) := od; have q352 : x5_1 < (l0.length : Int) := od; obtain ⟨ad352, A352_0, c352_0, e352, hx352_0, hx352_1, hx352_2, hx352_3, hx352_4, hx352_5, hx352_6, hx352_7, hx352_8, hl352_0, hi352_0⟩ := at_T121 HR0.out x5_1 p352 q352; obtain rfl : ad350 = ad352 := (by injection e352); have HR352_0 := Aside0.mk hi352_0; have HC352_0 := Aside0.mk hl352_0; clear hi352_0 hl352_0; replace p352 := eq_true p352; replace q352 := eq_true q352; have ea_ := Option.some.inj (hx350_0.symm.trans hx352_0); injection ea_ with ea_ en_ ec_; subst ea_; subst ec_; clear en_; have p353 : 0 ≤ (x5_1 : Int) := od; have q353 : x5_1 < (l0.length : Int) := od; obtain ⟨ad353, A353_0, c353_0, e353, hx353_0, hx353_1, hx353_2, hx353_3, hx353_4, hx353_5, hx353_6, hx353_7, hx353_8, hl353_0, hi353_0⟩ := at_T121 HR0.out x5_1 p353 q353; obtain rfl : ad350 = ad353 := (by injection e353); have HR353_0 := Aside0.mk hi353_0; have HC353_0 := Aside0.mk hl353_0; clear hi353_0 hl353_0; replace p353 := eq_true p353; replace q353 := eq_true q353; have ea_ := Option.some.inj (hx350_0.symm.trans hx353_0); injection ea_ with ea_ en_ ec_; subst ea_; subst ec_; clear en_))
                go_ret
                exact ⟨by first | rfl | (simp; done) | (simp [*]; done), by repeat (first | exact Drawn0.refl _ | apply Drawn0.step)⟩
              · rw [if_neg c8] at H
                have c8b0 : (((rd_T121 l0 x5_1).f1.f1) != ((Int.tmod (wrap64 (t351 + 1)) 3) == 0)) = false := by simpa using c8
                (try (have c8b1 : decide (((rd_T121 l0 x5_1).f1.f1) = ((Int.tmod (wrap64 (t351 + 1)) 3) == 0)) = true := by simpa using c8))
                (try (have c8b2 : (((rd_T121 l0 x5_1).f1.f1) == ((Int.tmod (wrap64 (t351 + 1)) 3) == 0)) = true := by simpa using c8))
                clear c8
                by_cases c9 : ((rd_T121 l0 x5_1).f1.f2.f0) = (wrap64 ((wrap64 (t351 + 1)) + 1))
                · rw [if_pos c9] at H
                  have c9b0 : (((rd_T121 l0 x5_1).f1.f2.f0) == (wrap64 ((wrap64 (t351 + 1)) + 1))) = true := beq_iff_eq.mpr c9
                  have c9b1 : (((rd_T121 l0 x5_1).f1.f2.f0) != (wrap64 ((wrap64 (t351 + 1)) + 1))) = false := bne_eq_false_iff_eq.mpr c9
                  clear c9
                  by_cases c10 : ((rd_T121 l0 x5_1).f1.f2.f1) = (wrap64 ((wrap64 ((wrap64 (t351 + 1)) + 1)) + 1))
                  · rw [if_pos c10] at H
                    have c10b0 : (((rd_T121 l0 x5_1).f1.f2.f1) == (wrap64 ((wrap64 ((wrap64 (t351 + 1)) + 1)) + 1))) = true := beq_iff_eq.mpr c10
                    have c10b1 : (((rd_T121 l0 x5_1).f1.f2.f1) != (wrap64 ((wrap64 ((wrap64 (t351 + 1)) + 1)) + 1))) = false := bne_eq_false_iff_eq.mpr c10
                    clear c10
                    by_cases c11 : ((rd_T121 l0 x5_1).f1.f2.f2) = (wrap64 ((wrap64 ((wrap64 ((wrap64 (t351 + 1)) + 1)) + 1)) + 1))
                    · rw [if_pos c11] at H
                      have c11b0 : (((rd_T121 l0 x5_1).f1.f2.f2) == (wrap64 ((wrap64 ((wrap64 ((wrap64 (t351 + 1)) + 1)) + 1)) + 1))) = true := beq_iff_eq.mpr c11
                      have c11b1 : (((rd_T121 l0 x5_1).f1.f2.f2) != (wrap64 ((wrap64 ((wrap64 ((wrap64 (t351 + 1)) + 1)) + 1)) + 1))) = false := bne_eq_false_iff_eq.mpr c11
                      clear c11
                      by_cases c12 : ((rd_T121 l0 x5_1).f1.f3.f0) = (wrap64 ((wrap64 ((wrap64 ((wrap64 ((wrap64 (t351 + 1)) + 1)) + 1)) + 1)) + 1))
                      · rw [if_pos c12] at H
                        have c12b0 : (((rd_T121 l0 x5_1).f1.f3.f0) == (wrap64 ((wrap64 ((wrap64 ((wrap64 ((wrap64 (t351 + 1)) + 1)) + 1)) + 1)) + 1))) = true := beq_iff_eq.mpr c12
                        have c12b1 : (((rd_T121 l0 x5_1).f1.f3.f0) != (wrap64 ((wrap64 ((wrap64 ((wrap64 ((wrap64 (t351 + 1)) + 1)) + 1)) + 1)) + 1))) = false := bne_eq_false_iff_eq.mpr c12
                        clear c12
                        by_cases c13 : ((rd_T121 l0 x5_1).f1.f3.f1) = (wrap64 ((wrap64 ((wrap64 ((wrap64 ((wrap64 ((wrap64 (t351 + 1)) + 1)) + 1)) + 1)) + 1)) + 1))
                        · rw [if_pos c13] at H
                          have c13b0 : (((rd_T121 l0 x5_1).f1.f3.f1) == (wrap64 ((wrap64 ((wrap64 ((wrap64 ((wrap64 ((wrap64 (t351 + 1)) + 1)) + 1)) + 1)) + 1)) + 1))) = true := beq_iff_eq.mpr c13
                          have c13b1 : (((rd_T121 l0 x5_1).f1.f3.f1) != (wrap64 ((wrap64 ((wrap64 ((wrap64 ((wrap64 ((wrap64 (t351 + 1)) + 1)) + 1)) + 1)) + 1)) + 1))) = false := bne_eq_false_iff_eq.mpr c13
                          clear c13
                          by_cases c14 : ((rd_T121 l0 x5_1).f1.f3.f2) = (wrap64 ((wrap64 ((wrap64 ((wrap64 ((wrap64 ((wrap64 ((wrap64 (t351 + 1)) + 1)) + 1)) + 1)) + 1)) + 1)) + 1))
                          · rw [if_pos c14] at H
                            have c14b0 : (((rd_T121 l0 x5_1).f1.f3.f2) == (wrap64 ((wrap64 ((wrap64 ((wrap64 ((wrap64 ((wrap64 ((wrap64 (t351 + 1)) + 1)) + 1)) + 1)) + 1)) + 1)) + 1))) = true := beq_iff_eq.mpr c14
                            have c14b1 : (((rd_T121 l0 x5_1).f1.f3.f2) != (wrap64 ((wrap64 ((wrap64 ((wrap64 ((wrap64 ((wrap64 ((wrap64 (t351 + 1)) + 1)) + 1)) + 1)) + 1)) + 1)) + 1))) = false := bne_eq_false_iff_eq.mpr c14
                            clear c14
                            have H' := Aside0.mk H
                            clear H
                            have p350 : 0 ≤ (x5_1 : Int) := od
                            have q350 : x5_1 < (l0.length : Int) := od
                            obtain ⟨ad350, A350_0, c350_0, e350, hx350_0, hx350_1, hx350_2, hx350_3, hx350_4, hx350_5, hx350_6, hx350_7, hx350_8, hl350_0, hi350_0⟩ := at_T121 HR0.out x5_1 p350 q350
                            cases e350
                            have HR350_0 := Aside0.mk hi350_0
                            have HC350_0 := Aside0.mk hl350_0
                            clear hi350_0 hl350_0
                            replace p350 := eq_true p350
                            replace q350 := eq_true q350
                            go_wp2_with (first | ((with_reducible refine gate_callee (f := 101) rfl ?_); refine gl (some 18) Try.func101 #[.slice A350_0 ((rd_T121 l0 x5_1).f0).length c350_0, .int .i64 x1_1] ?_; (with_reducible refine (laws_heldPointS.calls k1 _ _ ((rd_T121 l0 x5_1).f0) x1_1 t351 _ ?side1 ?side2 A5.out).mono ?_); (case side1 => repeat (first | exact HR350_0.out | (with_reducible refine Kd.C_alloc ?_ _) | (with_reducible refine Kd.C_drewN ?_ _) | (with_reducible refine Kd.C_drew ?_))); (case side2 => exact HC350_0.out); rintro e w' ⟨rfl, ⟨nd, rfl⟩⟩; refine ⟨_, rfl, ?_⟩; have p352 : 0 ≤ (x5_1 : Int) := od; have q352 : x5_1 < (l0.length : Int) := od; obtain ⟨ad352, A352_0, c352_0, e352, hx352_0, hx352_1, hx352_2, hx352_3, hx352_4, hx352_5, hx352_6, hx352_7, hx352_8, hl352_0, hi352_0⟩ := at_T121 HR0.out x5_1 p352 q352; obtain rfl : ad350 = ad352 := (by injection e352); have HR352_0 := Aside0.mk hi352_0; have HC352_0 := Aside0.mk hl352_0; clear hi352_0 hl352_0; replace p352 := eq_true p352; replace q352 := eq_true q352; have ea_ := Option.some.inj (hx350_0.symm.trans hx352_0); injection ea_ with ea_ en_ ec_; subst ea_; subst ec_; clear en_; have p353 : 0 ≤ (x5_1 : Int) := od; have q353 : x5_1 < (l0.length : Int) := od; obtain ⟨ad353, A353_0, c353_0, e353, hx353_0, hx353_1, hx353_2, hx353_3, hx353_4, hx353_5, hx353_6, hx353_7, hx353_8, hl353_0, hi353_0⟩ := at_T121 HR0.out x5_1 p353 q353; obtain rfl : ad350 = ad353 := (by injection e353); have HR353_0 := Aside0.mk hi353_0; have HC353_0 := Aside0.mk hl353_0; clear hi353_0 hl353_0; replace p353 := eq_true p353; replace q353 := eq_true q353; have ea_ := Option.some.inj (hx350_0.symm.trans hx353_0); injection ea_ with ea_ en_ ec_; subst ea_; subst ec_; clear en_; have p354 : 0 ≤ (x5_1 : Int) := od; have q354 : x5_1 < (l0.length : Int) := od; obtain ⟨ad354, A354_0, c354_0, e354, hx354_0, hx354_1, hx354_2, hx354_3, hx354_4, hx354_5, hx354_6, hx354_7, hx354_8, hl354_0, hi354_0⟩ := at_T121 HR0.out x5_1 p354 q354; obtain rfl : ad350 = ad354 := (by injection e354); have HR354_0 := Aside0.mk hi354_0; have HC354_0 := Aside0.mk hl354_0; clear hi354_0 hl354_0; replace p354 := eq_true p354; replace q354 := eq_true q354; have ea_ := Option.some.inj (hx350_0.symm.trans hx354_0); injection ea_ with ea_ en_ ec_; subst ea_; subst ec_; clear en_; have p355 : 0 ≤ (x5_1 : Int) := od; have q355 : x5_1 < (l0.length : Int) := od; obtain ⟨ad355, A355_0, c355_0, e355, hx355_0, hx355_1, hx355_2, hx355_3, hx355_4, hx355_5, hx355_6, hx355_7, hx355_8, hl355_0, hi355_0⟩ := at_T121 HR0.out x5_1 p355 q355; obtain rfl : ad350 = ad355 := (by injection e355); have HR355_0 := Aside0.mk hi355_0; have HC355_0 := Aside0.mk hl355_0; clear hi355_0 hl355_0; replace p355 := eq_true p355; replace q355 := eq_true q355; have ea_ := Option.some.inj (hx350_0.symm.trans hx355_0); injection ea_ with ea_ en_ ec_; subst ea_; subst ec_; clear en_; have p356 : 0 ≤ (x5_1 : Int) := od; have q356 : x5_1 < (l0.length : Int) := od; obtain ⟨ad356, A356_0, c356_0, e356, hx356_0, hx356_1, hx356_2, hx356_3, hx356_4, hx356_5, hx356_6, hx356_7, hx356_8, hl356_0, hi356_0⟩ := at_T121 HR0.out x5_1 p356 q356; obtain rfl : ad350 = ad356 := (by injection e356); have HR356_0 := Aside0.mk hi356_0; have HC356_0 := Aside0.mk hl356_0; clear hi356_0 hl356_0; replace p356 := eq_true p356; replace q356 := eq_true q356; have ea_ := Option.some.inj (hx350_0.symm.trans hx356_0); injection ea_ with ea_ en_ ec_; subst ea_; subst ec_; clear en_; have p357 : 0 ≤ (x5_1 : Int) := od; have q357 : x5_1 < (l0.length : Int) := od; obtain ⟨ad357, A357_0, c357_0, e357, hx357_0, hx357_1, hx357_2, hx357_3, hx357_4, hx357_5, hx357_6, hx357_7, hx357_8, hl357_0, hi357_0⟩ := at_T121 HR0.out x5_1 p357 q357; obtain rfl : ad350 = ad357 := (by injection e357); have HR357_0 := Aside0.mk hi357_0; have HC357_0 := Aside0.mk hl357_0; clear hi357_0 hl357_0; replace p357 := eq_true p357; replace q357 := eq_true q357; have ea_ := Option.some.inj (hx350_0.symm.trans hx357_0); injection ea_ with ea_ en_ ec_; subst ea_; subst ec_; clear en_; have p358 : 0 ≤ (x5_1 : Int) := od; have q358 : x5_1 < (l0.length : Int) := od; obtain ⟨ad358, A358_0, c358_0, e358, hx358_0, hx358_1, hx358_2, hx358_3, hx358_4, hx358_5, hx358_6, hx358_7, hx358_8, hl358_0, hi358_0⟩ := at_T121 HR0.out x5_1 p358 q358; obtain rfl : ad350 = ad358 := (by injection e358); have HR358_0 := Aside0.mk hi358_0; have HC358_0 := Aside0.mk hl358_0; clear hi358_0 hl358_0; replace p358 := eq_true p358; replace q358 := eq_true q358; have ea_ := Option.some.inj (hx350_0.symm.trans hx358_0); injection ea_ with ea_ en_ ec_; subst ea_; subst ec_; clear en_; have p359 : 0 ≤ (x5_1 : Int) := od; have q359 : x5_1 < (l0.length : Int) := od; obtain ⟨ad359, A359_0, c359_0, e359, hx359_0, hx359_1, hx359_2, hx359_3, hx359_4, hx359_5, hx359_6, hx359_7, hx359_8, hl359_0, hi359_0⟩ := at_T121 HR0.out x5_1 p359 q359; obtain rfl : ad350 = ad359 := (by injection e359); have HR359_0 := Aside0.mk hi359_0; have HC359_0 := Aside0.mk hl359_0; clear hi359_0 hl359_0; replace p359 := eq_true p359; replace q359 := eq_true q359; have ea_ := Option.some.inj (hx350_0.symm.trans hx359_0); injection ea_ with ea_ en_ ec_; subst ea_; subst ec_; clear en_))
                            go_roundg k1
                            case measure => have := HK1.out; omega
                            case rel => exact ⟨(wrap64 ((wrap64 ((wrap64 ((wrap64 ((wrap64 ((wrap64 ((wrap64 ((wrap64 (t351 + 1)) + 1)) + 1)) + 1)) + 1)) + 1)) + 1)) + 1)), (wrap64 (x5_1 + 1)), (by first | rfl | (simp; done) | (simp [*]; done)), (by first | rfl | (simp; done) | (simp [*]; done)), H', ⟨by have := HK1.out; omega⟩, by repeat (first | exact Drawn0.refl _ | apply Drawn0.step)⟩
                          · rw [if_neg c14] at H
                            have c14b0 : (((rd_T121 l0 x5_1).f1.f3.f2) == (wrap64 ((wrap64 ((wrap64 ((wrap64 ((wrap64 ((wrap64 ((wrap64 (t351 + 1)) + 1)) + 1)) + 1)) + 1)) + 1)) + 1))) = false := beq_eq_false_iff_ne.mpr c14
                            have c14b1 : (((rd_T121 l0 x5_1).f1.f3.f2) != (wrap64 ((wrap64 ((wrap64 ((wrap64 ((wrap64 ((wrap64 ((wrap64 (t351 + 1)) + 1)) + 1)) + 1)) + 1)) + 1)) + 1))) = true := bne_iff_ne.mpr c14
                            obtain rfl := Option.some.inj H
                            have p350 : 0 ≤ (x5_1 : Int) := od
                            have q350 : x5_1 < (l0.length : Int) := od
                            obtain ⟨ad350, A350_0, c350_0, e350, hx350_0, hx350_1, hx350_2, hx350_3, hx350_4, hx350_5, hx350_6, hx350_7, hx350_8, hl350_0, hi350_0⟩ := at_T121 HR0.out x5_1 p350 q350
                            cases e350
                            have HR350_0 := Aside0.mk hi350_0
                            have HC350_0 := Aside0.mk hl350_0
                            clear hi350_0 hl350_0
                            replace p350 := eq_true p350
                            replace q350 := eq_true q350
                            go_wp2_with (first | ((with_reducible refine gate_callee (f := 101) rfl ?_); refine gl (some 18) Try.func101 #[.slice A350_0 ((rd_T121 l0 x5_1).f0).length c350_0, .int .i64 x1_1] ?_; (with_reducible refine (laws_heldPointS.calls k1 _ _ ((rd_T121 l0 x5_1).f0) x1_1 t351 _ ?side1 ?side2 A5.out).mono ?_); (case side1 => repeat (first | exact HR350_0.out | (with_reducible refine Kd.C_alloc ?_ _) | (with_reducible refine Kd.C_drewN ?_ _) | (with_reducible refine Kd.C_drew ?_))); (case side2 => exact HC350_0.out); rintro e w' ⟨rfl, ⟨nd, rfl⟩⟩; refine ⟨_, rfl, ?_⟩; have p352 : 0 ≤ (x5_1 : Int) := od; have q352 : x5_1 < (l0.length : Int) := od; obtain ⟨ad352, A352_0, c352_0, e352, hx352_0, hx352_1, hx352_2, hx352_3, hx352_4, hx352_5, hx352_6, hx352_7, hx352_8, hl352_0, hi352_0⟩ := at_T121 HR0.out x5_1 p352 q352; obtain rfl : ad350 = ad352 := (by injection e352); have HR352_0 := Aside0.mk hi352_0; have HC352_0 := Aside0.mk hl352_0; clear hi352_0 hl352_0; replace p352 := eq_true p352; replace q352 := eq_true q352; have ea_ := Option.some.inj (hx350_0.symm.trans hx352_0); injection ea_ with ea_ en_ ec_; subst ea_; subst ec_; clear en_; have p353 : 0 ≤ (x5_1 : Int) := od; have q353 : x5_1 < (l0.length : Int) := od; obtain ⟨ad353, A353_0, c353_0, e353, hx353_0, hx353_1, hx353_2, hx353_3, hx353_4, hx353_5, hx353_6, hx353_7, hx353_8, hl353_0, hi353_0⟩ := at_T121 HR0.out x5_1 p353 q353; obtain rfl : ad350 = ad353 := (by injection e353); have HR353_0 := Aside0.mk hi353_0; have HC353_0 := Aside0.mk hl353_0; clear hi353_0 hl353_0; replace p353 := eq_true p353; replace q353 := eq_true q353; have ea_ := Option.some.inj (hx350_0.symm.trans hx353_0); injection ea_ with ea_ en_ ec_; subst ea_; subst ec_; clear en_; have p354 : 0 ≤ (x5_1 : Int) := od; have q354 : x5_1 < (l0.length : Int) := od; obtain ⟨ad354, A354_0, c354_0, e354, hx354_0, hx354_1, hx354_2, hx354_3, hx354_4, hx354_5, hx354_6, hx354_7, hx354_8, hl354_0, hi354_0⟩ := at_T121 HR0.out x5_1 p354 q354; obtain rfl : ad350 = ad354 := (by injection e354); have HR354_0 := Aside0.mk hi354_0; have HC354_0 := Aside0.mk hl354_0; clear hi354_0 hl354_0; replace p354 := eq_true p354; replace q354 := eq_true q354; have ea_ := Option.some.inj (hx350_0.symm.trans hx354_0); injection ea_ with ea_ en_ ec_; subst ea_; subst ec_; clear en_; have p355 : 0 ≤ (x5_1 : Int) := od; have q355 : x5_1 < (l0.length : Int) := od; obtain ⟨ad355, A355_0, c355_0, e355, hx355_0, hx355_1, hx355_2, hx355_3, hx355_4, hx355_5, hx355_6, hx355_7, hx355_8, hl355_0, hi355_0⟩ := at_T121 HR0.out x5_1 p355 q355; obtain rfl : ad350 = ad355 := (by injection e355); have HR355_0 := Aside0.mk hi355_0; have HC355_0 := Aside0.mk hl355_0; clear hi355_0 hl355_0; replace p355 := eq_true p355; replace q355 := eq_true q355; have ea_ := Option.some.inj (hx350_0.symm.trans hx355_0); injection ea_ with ea_ en_ ec_; subst ea_; subst ec_; clear en_; have p356 : 0 ≤ (x5_1 : Int) := od; have q356 : x5_1 < (l0.length : Int) := od; obtain ⟨ad356, A356_0, c356_0, e356, hx356_0, hx356_1, hx356_2, hx356_3, hx356_4, hx356_5, hx356_6, hx356_7, hx356_8, hl356_0, hi356_0⟩ := at_T121 HR0.out x5_1 p356 q356; obtain rfl : ad350 = ad356 := (by injection e356); have HR356_0 := Aside0.mk hi356_0; have HC356_0 := Aside0.mk hl356_0; clear hi356_0 hl356_0; replace p356 := eq_true p356; replace q356 := eq_true q356; have ea_ := Option.some.inj (hx350_0.symm.trans hx356_0); injection ea_ with ea_ en_ ec_; subst ea_; subst ec_; clear en_; have p357 : 0 ≤ (x5_1 : Int) := od; have q357 : x5_1 < (l0.length : Int) := od; obtain ⟨ad357, A357_0, c357_0, e357, hx357_0, hx357_1, hx357_2, hx357_3, hx357_4, hx357_5, hx357_6, hx357_7, hx357_8, hl357_0, hi357_0⟩ := at_T121 HR0.out x5_1 p357 q357; obtain rfl : ad350 = ad357 := (by injection e357); have HR357_0 := Aside0.mk hi357_0; have HC357_0 := Aside0.mk hl357_0; clear hi357_0 hl357_0; replace p357 := eq_true p357; replace q357 := eq_true q357; have ea_ := Option.some.inj (hx350_0.symm.trans hx357_0); injection ea_ with ea_ en_ ec_; subst ea_; subst ec_; clear en_; have p358 : 0 ≤ (x5_1 : Int) := od; have q358 : x5_1 < (l0.length : Int) := od; obtain ⟨ad358, A358_0, c358_0, e358, hx358_0, hx358_1, hx358_2, hx358_3, hx358_4, hx358_5, hx358_6, hx358_7, hx358_8, hl358_0, hi358_0⟩ := at_T121 HR0.out x5_1 p358 q358; obtain rfl : ad350 = ad358 := (by injection e358); have HR358_0 := Aside0.mk hi358_0; have HC358_0 := Aside0.mk hl358_0; clear hi358_0 hl358_0; replace p358 := eq_true p358; replace q358 := eq_true q358; have ea_ := Option.some.inj (hx350_0.symm.trans hx358_0); injection ea_ with ea_ en_ ec_; subst ea_; subst ec_; clear en_; have p359 : 0 ≤ (x5_1 : Int) := od; have q359 : x5_1 < (l0.length : Int) := od; obtain ⟨ad359, A359_0, c359_0, e359, hx359_0, hx359_1, hx359_2, hx359_3, hx359_4, hx359_5, hx359_6, hx359_7, hx359_8, hl359_0, hi359_0⟩ := at_T121 HR0.out x5_1 p359 q359; obtain rfl : ad350 = ad359 := (by injection e359); have HR359_0 := Aside0.mk hi359_0; have HC359_0 := Aside0.mk hl359_0; clear hi359_0 hl359_0; replace p359 := eq_true p359; replace q359 := eq_true q359; have ea_ := Option.some.inj (hx350_0.symm.trans hx359_0); injection ea_ with ea_ en_ ec_; subst ea_; subst ec_; clear en_))
                            go_ret
                            exact ⟨by first | rfl | (simp; done) | (simp [*]; done), by repeat (first | exact Drawn0.refl _ | apply Drawn0.step)⟩
                        · rw [if_neg c13] at H
                          have c13b0 : (((rd_T121 l0 x5_1).f1.f3.f1) == (wrap64 ((wrap64 ((wrap64 ((wrap64 ((wrap64 ((wrap64 (t351 + 1)) + 1)) + 1)) + 1)) + 1)) + 1))) = false := beq_eq_false_iff_ne.mpr c13
                          have c13b1 : (((rd_T121 l0 x5_1).f1.f3.f1) != (wrap64 ((wrap64 ((wrap64 ((wrap64 ((wrap64 ((wrap64 (t351 + 1)) + 1)) + 1)) + 1)) + 1)) + 1))) = true := bne_iff_ne.mpr c13
                          obtain rfl := Option.some.inj H
                          have p350 : 0 ≤ (x5_1 : Int) := od
                          have q350 : x5_1 < (l0.length : Int) := od
                          obtain ⟨ad350, A350_0, c350_0, e350, hx350_0, hx350_1, hx350_2, hx350_3, hx350_4, hx350_5, hx350_6, hx350_7, hx350_8, hl350_0, hi350_0⟩ := at_T121 HR0.out x5_1 p350 q350
                          cases e350
                          have HR350_0 := Aside0.mk hi350_0
                          have HC350_0 := Aside0.mk hl350_0
                          clear hi350_0 hl350_0
                          replace p350 := eq_true p350
                          replace q350 := eq_true q350
                          go_wp2_with (first | ((with_reducible refine gate_callee (f := 101) rfl ?_); refine gl (some 18) Try.func101 #[.slice A350_0 ((rd_T121 l0 x5_1).f0).length c350_0, .int .i64 x1_1] ?_; (with_reducible refine (laws_heldPointS.calls k1 _ _ ((rd_T121 l0 x5_1).f0) x1_1 t351 _ ?side1 ?side2 A5.out).mono ?_); (case side1 => repeat (first | exact HR350_0.out | (with_reducible refine Kd.C_alloc ?_ _) | (with_reducible refine Kd.C_drewN ?_ _) | (with_reducible refine Kd.C_drew ?_))); (case side2 => exact HC350_0.out); rintro e w' ⟨rfl, ⟨nd, rfl⟩⟩; refine ⟨_, rfl, ?_⟩; have p352 : 0 ≤ (x5_1 : Int) := od; have q352 : x5_1 < (l0.length : Int) := od; obtain ⟨ad352, A352_0, c352_0, e352, hx352_0, hx352_1, hx352_2, hx352_3, hx352_4, hx352_5, hx352_6, hx352_7, hx352_8, hl352_0, hi352_0⟩ := at_T121 HR0.out x5_1 p352 q352; obtain rfl : ad350 = ad352 := (by injection e352); have HR352_0 := Aside0.mk hi352_0; have HC352_0 := Aside0.mk hl352_0; clear hi352_0 hl352_0; replace p352 := eq_true p352; replace q352 := eq_true q352; have ea_ := Option.some.inj (hx350_0.symm.trans hx352_0); injection ea_ with ea_ en_ ec_; subst ea_; subst ec_; clear en_; have p353 : 0 ≤ (x5_1 : Int) := od; have q353 : x5_1 < (l0.length : Int) := od; obtain ⟨ad353, A353_0, c353_0, e353, hx353_0, hx353_1, hx353_2, hx353_3, hx353_4, hx353_5, hx353_6, hx353_7, hx353_8, hl353_0, hi353_0⟩ := at_T121 HR0.out x5_1 p353 q353; obtain rfl : ad350 = ad353 := (by injection e353); have HR353_0 := Aside0.mk hi353_0; have HC353_0 := Aside0.mk hl353_0; clear hi353_0 hl353_0; replace p353 := eq_true p353; replace q353 := eq_true q353; have ea_ := Option.some.inj (hx350_0.symm.trans hx353_0); injection ea_ with ea_ en_ ec_; subst ea_; subst ec_; clear en_; have p354 : 0 ≤ (x5_1 : Int) := od; have q354 : x5_1 < (l0.length : Int) := od; obtain ⟨ad354, A354_0, c354_0, e354, hx354_0, hx354_1, hx354_2, hx354_3, hx354_4, hx354_5, hx354_6, hx354_7, hx354_8, hl354_0, hi354_0⟩ := at_T121 HR0.out x5_1 p354 q354; obtain rfl : ad350 = ad354 := (by injection e354); have HR354_0 := Aside0.mk hi354_0; have HC354_0 := Aside0.mk hl354_0; clear hi354_0 hl354_0; replace p354 := eq_true p354; replace q354 := eq_true q354; have ea_ := Option.some.inj (hx350_0.symm.trans hx354_0); injection ea_ with ea_ en_ ec_; subst ea_; subst ec_; clear en_; have p355 : 0 ≤ (x5_1 : Int) := od; have q355 : x5_1 < (l0.length : Int) := od; obtain ⟨ad355, A355_0, c355_0, e355, hx355_0, hx355_1, hx355_2, hx355_3, hx355_4, hx355_5, hx355_6, hx355_7, hx355_8, hl355_0, hi355_0⟩ := at_T121 HR0.out x5_1 p355 q355; obtain rfl : ad350 = ad355 := (by injection e355); have HR355_0 := Aside0.mk hi355_0; have HC355_0 := Aside0.mk hl355_0; clear hi355_0 hl355_0; replace p355 := eq_true p355; replace q355 := eq_true q355; have ea_ := Option.some.inj (hx350_0.symm.trans hx355_0); injection ea_ with ea_ en_ ec_; subst ea_; subst ec_; clear en_; have p356 : 0 ≤ (x5_1 : Int) := od; have q356 : x5_1 < (l0.length : Int) := od; obtain ⟨ad356, A356_0, c356_0, e356, hx356_0, hx356_1, hx356_2, hx356_3, hx356_4, hx356_5, hx356_6, hx356_7, hx356_8, hl356_0, hi356_0⟩ := at_T121 HR0.out x5_1 p356 q356; obtain rfl : ad350 = ad356 := (by injection e356); have HR356_0 := Aside0.mk hi356_0; have HC356_0 := Aside0.mk hl356_0; clear hi356_0 hl356_0; replace p356 := eq_true p356; replace q356 := eq_true q356; have ea_ := Option.some.inj (hx350_0.symm.trans hx356_0); injection ea_ with ea_ en_ ec_; subst ea_; subst ec_; clear en_; have p357 : 0 ≤ (x5_1 : Int) := od; have q357 : x5_1 < (l0.length : Int) := od; obtain ⟨ad357, A357_0, c357_0, e357, hx357_0, hx357_1, hx357_2, hx357_3, hx357_4, hx357_5, hx357_6, hx357_7, hx357_8, hl357_0, hi357_0⟩ := at_T121 HR0.out x5_1 p357 q357; obtain rfl : ad350 = ad357 := (by injection e357); have HR357_0 := Aside0.mk hi357_0; have HC357_0 := Aside0.mk hl357_0; clear hi357_0 hl357_0; replace p357 := eq_true p357; replace q357 := eq_true q357; have ea_ := Option.some.inj (hx350_0.symm.trans hx357_0); injection ea_ with ea_ en_ ec_; subst ea_; subst ec_; clear en_; have p358 : 0 ≤ (x5_1 : Int) := od; have q358 : x5_1 < (l0.length : Int) := od; obtain ⟨ad358, A358_0, c358_0, e358, hx358_0, hx358_1, hx358_2, hx358_3, hx358_4, hx358_5, hx358_6, hx358_7, hx358_8, hl358_0, hi358_0⟩ := at_T121 HR0.out x5_1 p358 q358; obtain rfl : ad350 = ad358 := (by injection e358); have HR358_0 := Aside0.mk hi358_0; have HC358_0 := Aside0.mk hl358_0; clear hi358_0 hl358_0; replace p358 := eq_true p358; replace q358 := eq_true q358; have ea_ := Option.some.inj (hx350_0.symm.trans hx358_0); injection ea_ with ea_ en_ ec_; subst ea_; subst ec_; clear en_))
                          go_ret
                          exact ⟨by first | rfl | (simp; done) | (simp [*]; done), by repeat (first | exact Drawn0.refl _ | apply Drawn0.step)⟩
                      · rw [if_neg c12] at H
                        have c12b0 : (((rd_T121 l0 x5_1).f1.f3.f0) == (wrap64 ((wrap64 ((wrap64 ((wrap64 ((wrap64 (t351 + 1)) + 1)) + 1)) + 1)) + 1))) = false := beq_eq_false_iff_ne.mpr c12
                        have c12b1 : (((rd_T121 l0 x5_1).f1.f3.f0) != (wrap64 ((wrap64 ((wrap64 ((wrap64 ((wrap64 (t351 + 1)) + 1)) + 1)) + 1)) + 1))) = true := bne_iff_ne.mpr c12
                        obtain rfl := Option.some.inj H
                        have p350 : 0 ≤ (x5_1 : Int) := od
                        have q350 : x5_1 < (l0.length : Int) := od
                        obtain ⟨ad350, A350_0, c350_0, e350, hx350_0, hx350_1, hx350_2, hx350_3, hx350_4, hx350_5, hx350_6, hx350_7, hx350_8, hl350_0, hi350_0⟩ := at_T121 HR0.out x5_1 p350 q350
                        cases e350
                        have HR350_0 := Aside0.mk hi350_0
                        have HC350_0 := Aside0.mk hl350_0
                        clear hi350_0 hl350_0
                        replace p350 := eq_true p350
                        replace q350 := eq_true q350
                        go_wp2_with (first | ((with_reducible refine gate_callee (f := 101) rfl ?_); refine gl (some 18) Try.func101 #[.slice A350_0 ((rd_T121 l0 x5_1).f0).length c350_0, .int .i64 x1_1] ?_; (with_reducible refine (laws_heldPointS.calls k1 _ _ ((rd_T121 l0 x5_1).f0) x1_1 t351 _ ?side1 ?side2 A5.out).mono ?_); (case side1 => repeat (first | exact HR350_0.out | (with_reducible refine Kd.C_alloc ?_ _) | (with_reducible refine Kd.C_drewN ?_ _) | (with_reducible refine Kd.C_drew ?_))); (case side2 => exact HC350_0.out); rintro e w' ⟨rfl, ⟨nd, rfl⟩⟩; refine ⟨_, rfl, ?_⟩; have p352 : 0 ≤ (x5_1 : Int) := od; have q352 : x5_1 < (l0.length : Int) := od; obtain ⟨ad352, A352_0, c352_0, e352, hx352_0, hx352_1, hx352_2, hx352_3, hx352_4, hx352_5, hx352_6, hx352_7, hx352_8, hl352_0, hi352_0⟩ := at_T121 HR0.out x5_1 p352 q352; obtain rfl : ad350 = ad352 := (by injection e352); have HR352_0 := Aside0.mk hi352_0; have HC352_0 := Aside0.mk hl352_0; clear hi352_0 hl352_0; replace p352 := eq_true p352; replace q352 := eq_true q352; have ea_ := Option.some.inj (hx350_0.symm.trans hx352_0); injection ea_ with ea_ en_ ec_; subst ea_; subst ec_; clear en_; have p353 : 0 ≤ (x5_1 : Int) := od; have q353 : x5_1 < (l0.length : Int) := od; obtain ⟨ad353, A353_0, c353_0, e353, hx353_0, hx353_1, hx353_2, hx353_3, hx353_4, hx353_5, hx353_6, hx353_7, hx353_8, hl353_0, hi353_0⟩ := at_T121 HR0.out x5_1 p353 q353; obtain rfl : ad350 = ad353 := (by injection e353); have HR353_0 := Aside0.mk hi353_0; have HC353_0 := Aside0.mk hl353_0; clear hi353_0 hl353_0; replace p353 := eq_true p353; replace q353 := eq_true q353; have ea_ := Option.some.inj (hx350_0.symm.trans hx353_0); injection ea_ with ea_ en_ ec_; subst ea_; subst ec_; clear en_; have p354 : 0 ≤ (x5_1 : Int) := od; have q354 : x5_1 < (l0.length : Int) := od; obtain ⟨ad354, A354_0, c354_0, e354, hx354_0, hx354_1, hx354_2, hx354_3, hx354_4, hx354_5, hx354_6, hx354_7, hx354_8, hl354_0, hi354_0⟩ := at_T121 HR0.out x5_1 p354 q354; obtain rfl : ad350 = ad354 := (by injection e354); have HR354_0 := Aside0.mk hi354_0; have HC354_0 := Aside0.mk hl354_0; clear hi354_0 hl354_0; replace p354 := eq_true p354; replace q354 := eq_true q354; have ea_ := Option.some.inj (hx350_0.symm.trans hx354_0); injection ea_ with ea_ en_ ec_; subst ea_; subst ec_; clear en_; have p355 : 0 ≤ (x5_1 : Int) := od; have q355 : x5_1 < (l0.length : Int) := od; obtain ⟨ad355, A355_0, c355_0, e355, hx355_0, hx355_1, hx355_2, hx355_3, hx355_4, hx355_5, hx355_6, hx355_7, hx355_8, hl355_0, hi355_0⟩ := at_T121 HR0.out x5_1 p355 q355; obtain rfl : ad350 = ad355 := (by injection e355); have HR355_0 := Aside0.mk hi355_0; have HC355_0 := Aside0.mk hl355_0; clear hi355_0 hl355_0; replace p355 := eq_true p355; replace q355 := eq_true q355; have ea_ := Option.some.inj (hx350_0.symm.trans hx355_0); injection ea_ with ea_ en_ ec_; subst ea_; subst ec_; clear en_; have p356 : 0 ≤ (x5_1 : Int) := od; have q356 : x5_1 < (l0.length : Int) := od; obtain ⟨ad356, A356_0, c356_0, e356, hx356_0, hx356_1, hx356_2, hx356_3, hx356_4, hx356_5, hx356_6, hx356_7, hx356_8, hl356_0, hi356_0⟩ := at_T121 HR0.out x5_1 p356 q356; obtain rfl : ad350 = ad356 := (by injection e356); have HR356_0 := Aside0.mk hi356_0; have HC356_0 := Aside0.mk hl356_0; clear hi356_0 hl356_0; replace p356 := eq_true p356; replace q356 := eq_true q356; have ea_ := Option.some.inj (hx350_0.symm.trans hx356_0); injection ea_ with ea_ en_ ec_; subst ea_; subst ec_; clear en_; have p357 : 0 ≤ (x5_1 : Int) := od; have q357 : x5_1 < (l0.length : Int) := od; obtain ⟨ad357, A357_0, c357_0, e357, hx357_0, hx357_1, hx357_2, hx357_3, hx357_4, hx357_5, hx357_6, hx357_7, hx357_8, hl357_0, hi357_0⟩ := at_T121 HR0.out x5_1 p357 q357; obtain rfl : ad350 = ad357 := (by injection e357); have HR357_0 := Aside0.mk hi357_0; have HC357_0 := Aside0.mk hl357_0; clear hi357_0 hl357_0; replace p357 := eq_true p357; replace q357 := eq_true q357; have ea_ := Option.some.inj (hx350_0.symm.trans hx357_0); injection ea_ with ea_ en_ ec_; subst ea_; subst ec_; clear en_))
                        go_ret
                        exact ⟨by first | rfl | (simp; done) | (simp [*]; done), by repeat (first | exact Drawn0.refl _ | apply Drawn0.step)⟩
                    · rw [if_neg c11] at H
                      have c11b0 : (((rd_T121 l0 x5_1).f1.f2.f2) == (wrap64 ((wrap64 ((wrap64 ((wrap64 (t351 + 1)) + 1)) + 1)) + 1))) = false := beq_eq_false_iff_ne.mpr c11
                      have c11b1 : (((rd_T121 l0 x5_1).f1.f2.f2) != (wrap64 ((wrap64 ((wrap64 ((wrap64 (t351 + 1)) + 1)) + 1)) + 1))) = true := bne_iff_ne.mpr c11
                      obtain rfl := Option.some.inj H
                      have p350 : 0 ≤ (x5_1 : Int) := od
                      have q350 : x5_1 < (l0.length : Int) := od
                      obtain ⟨ad350, A350_0, c350_0, e350, hx350_0, hx350_1, hx350_2, hx350_3, hx350_4, hx350_5, hx350_6, hx350_7, hx350_8, hl350_0, hi350_0⟩ := at_T121 HR0.out x5_1 p350 q350
                      cases e350
                      have HR350_0 := Aside0.mk hi350_0
                      have HC350_0 := Aside0.mk hl350_0
                      clear hi350_0 hl350_0
                      replace p350 := eq_true p350
                      replace q350 := eq_true q350
                      go_wp2_with (first | ((with_reducible refine gate_callee (f := 101) rfl ?_); refine gl (some 18) Try.func101 #[.slice A350_0 ((rd_T121 l0 x5_1).f0).length c350_0, .int .i64 x1_1] ?_; (with_reducible refine (laws_heldPointS.calls k1 _ _ ((rd_T121 l0 x5_1).f0) x1_1 t351 _ ?side1 ?side2 A5.out).mono ?_); (case side1 => repeat (first | exact HR350_0.out | (with_reducible refine Kd.C_alloc ?_ _) | (with_reducible refine Kd.C_drewN ?_ _) | (with_reducible refine Kd.C_drew ?_))); (case side2 => exact HC350_0.out); rintro e w' ⟨rfl, ⟨nd, rfl⟩⟩; refine ⟨_, rfl, ?_⟩; have p352 : 0 ≤ (x5_1 : Int) := od; have q352 : x5_1 < (l0.length : Int) := od; obtain ⟨ad352, A352_0, c352_0, e352, hx352_0, hx352_1, hx352_2, hx352_3, hx352_4, hx352_5, hx352_6, hx352_7, hx352_8, hl352_0, hi352_0⟩ := at_T121 HR0.out x5_1 p352 q352; obtain rfl : ad350 = ad352 := (by injection e352); have HR352_0 := Aside0.mk hi352_0; have HC352_0 := Aside0.mk hl352_0; clear hi352_0 hl352_0; replace p352 := eq_true p352; replace q352 := eq_true q352; have ea_ := Option.some.inj (hx350_0.symm.trans hx352_0); injection ea_ with ea_ en_ ec_; subst ea_; subst ec_; clear en_; have p353 : 0 ≤ (x5_1 : Int) := od; have q353 : x5_1 < (l0.length : Int) := od; obtain ⟨ad353, A353_0, c353_0, e353, hx353_0, hx353_1, hx353_2, hx353_3, hx353_4, hx353_5, hx353_6, hx353_7, hx353_8, hl353_0, hi353_0⟩ := at_T121 HR0.out x5_1 p353 q353; obtain rfl : ad350 = ad353 := (by injection e353); have HR353_0 := Aside0.mk hi353_0; have HC353_0 := Aside0.mk hl353_0; clear hi353_0 hl353_0; replace p353 := eq_true p353; replace q353 := eq_true q353; have ea_ := Option.some.inj (hx350_0.symm.trans hx353_0); injection ea_ with ea_ en_ ec_; subst ea_; subst ec_; clear en_; have p354 : 0 ≤ (x5_1 : Int) := od; have q354 : x5_1 < (l0.length : Int) := od; obtain ⟨ad354, A354_0, c354_0, e354, hx354_0, hx354_1, hx354_2, hx354_3, hx354_4, hx354_5, hx354_6, hx354_7, hx354_8, hl354_0, hi354_0⟩ := at_T121 HR0.out x5_1 p354 q354; obtain rfl : ad350 = ad354 := (by injection e354); have HR354_0 := Aside0.mk hi354_0; have HC354_0 := Aside0.mk hl354_0; clear hi354_0 hl354_0; replace p354 := eq_true p354; replace q354 := eq_true q354; have ea_ := Option.some.inj (hx350_0.symm.trans hx354_0); injection ea_ with ea_ en_ ec_; subst ea_; subst ec_; clear en_; have p355 : 0 ≤ (x5_1 : Int) := od; have q355 : x5_1 < (l0.length : Int) := od; obtain ⟨ad355, A355_0, c355_0, e355, hx355_0, hx355_1, hx355_2, hx355_3, hx355_4, hx355_5, hx355_6, hx355_7, hx355_8, hl355_0, hi355_0⟩ := at_T121 HR0.out x5_1 p355 q355; obtain rfl : ad350 = ad355 := (by injection e355); have HR355_0 := Aside0.mk hi355_0; have HC355_0 := Aside0.mk hl355_0; clear hi355_0 hl355_0; replace p355 := eq_true p355; replace q355 := eq_true q355; have ea_ := Option.some.inj (hx350_0.symm.trans hx355_0); injection ea_ with ea_ en_ ec_; subst ea_; subst ec_; clear en_; have p356 : 0 ≤ (x5_1 : Int) := od; have q356 : x5_1 < (l0.length : Int) := od; obtain ⟨ad356, A356_0, c356_0, e356, hx356_0, hx356_1, hx356_2, hx356_3, hx356_4, hx356_5, hx356_6, hx356_7, hx356_8, hl356_0, hi356_0⟩ := at_T121 HR0.out x5_1 p356 q356; obtain rfl : ad350 = ad356 := (by injection e356); have HR356_0 := Aside0.mk hi356_0; have HC356_0 := Aside0.mk hl356_0; clear hi356_0 hl356_0; replace p356 := eq_true p356; replace q356 := eq_true q356; have ea_ := Option.some.inj (hx350_0.symm.trans hx356_0); injection ea_ with ea_ en_ ec_; subst ea_; subst ec_; clear en_))
                      go_ret
                      exact ⟨by first | rfl | (simp; done) | (simp [*]; done), by repeat (first | exact Drawn0.refl _ | apply Drawn0.step)⟩
                  · rw [if_neg c10] at H
                    have c10b0 : (((rd_T121 l0 x5_1).f1.f2.f1) == (wrap64 ((wrap64 ((wrap64 (t351 + 1)) + 1)) + 1))) = false := beq_eq_false_iff_ne.mpr c10
                    have c10b1 : (((rd_T121 l0 x5_1).f1.f2.f1) != (wrap64 ((wrap64 ((wrap64 (t351 + 1)) + 1)) + 1))) = true := bne_iff_ne.mpr c10
                    obtain rfl := Option.some.inj H
                    have p350 : 0 ≤ (x5_1 : Int) := od
                    have q350 : x5_1 < (l0.length : Int) := od
                    obtain ⟨ad350, A350_0, c350_0, e350, hx350_0, hx350_1, hx350_2, hx350_3, hx350_4, hx350_5, hx350_6, hx350_7, hx350_8, hl350_0, hi350_0⟩ := at_T121 HR0.out x5_1 p350 q350
                    cases e350
                    have HR350_0 := Aside0.mk hi350_0
                    have HC350_0 := Aside0.mk hl350_0
                    clear hi350_0 hl350_0
                    replace p350 := eq_true p350
                    replace q350 := eq_true q350
                    go_wp2_with (first | ((with_reducible refine gate_callee (f := 101) rfl ?_); refine gl (some 18) Try.func101 #[.slice A350_0 ((rd_T121 l0 x5_1).f0).length c350_0, .int .i64 x1_1] ?_; (with_reducible refine (laws_heldPointS.calls k1 _ _ ((rd_T121 l0 x5_1).f0) x1_1 t351 _ ?side1 ?side2 A5.out).mono ?_); (case side1 => repeat (first | exact HR350_0.out | (with_reducible refine Kd.C_alloc ?_ _) | (with_reducible refine Kd.C_drewN ?_ _) | (with_reducible refine Kd.C_drew ?_))); (case side2 => exact HC350_0.out); rintro e w' ⟨rfl, ⟨nd, rfl⟩⟩; refine ⟨_, rfl, ?_⟩; have p352 : 0 ≤ (x5_1 : Int) := od; have q352 : x5_1 < (l0.length : Int) := od; obtain ⟨ad352, A352_0, c352_0, e352, hx352_0, hx352_1, hx352_2, hx352_3, hx352_4, hx352_5, hx352_6, hx352_7, hx352_8, hl352_0, hi352_0⟩ := at_T121 HR0.out x5_1 p352 q352; obtain rfl : ad350 = ad352 := (by injection e352); have HR352_0 := Aside0.mk hi352_0; have HC352_0 := Aside0.mk hl352_0; clear hi352_0 hl352_0; replace p352 := eq_true p352; replace q352 := eq_true q352; have ea_ := Option.some.inj (hx350_0.symm.trans hx352_0); injection ea_ with ea_ en_ ec_; subst ea_; subst ec_; clear en_; have p353 : 0 ≤ (x5_1 : Int) := od; have q353 : x5_1 < (l0.length : Int) := od; obtain ⟨ad353, A353_0, c353_0, e353, hx353_0, hx353_1, hx353_2, hx353_3, hx353_4, hx353_5, hx353_6, hx353_7, hx353_8, hl353_0, hi353_0⟩ := at_T121 HR0.out x5_1 p353 q353; obtain rfl : ad350 = ad353 := (by injection e353); have HR353_0 := Aside0.mk hi353_0; have HC353_0 := Aside0.mk hl353_0; clear hi353_0 hl353_0; replace p353 := eq_true p353; replace q353 := eq_true q353; have ea_ := Option.some.inj (hx350_0.symm.trans hx353_0); injection ea_ with ea_ en_ ec_; subst ea_; subst ec_; clear en_; have p354 : 0 ≤ (x5_1 : Int) := od; have q354 : x5_1 < (l0.length : Int) := od; obtain ⟨ad354, A354_0, c354_0, e354, hx354_0, hx354_1, hx354_2, hx354_3, hx354_4, hx354_5, hx354_6, hx354_7, hx354_8, hl354_0, hi354_0⟩ := at_T121 HR0.out x5_1 p354 q354; obtain rfl : ad350 = ad354 := (by injection e354); have HR354_0 := Aside0.mk hi354_0; have HC354_0 := Aside0.mk hl354_0; clear hi354_0 hl354_0; replace p354 := eq_true p354; replace q354 := eq_true q354; have ea_ := Option.some.inj (hx350_0.symm.trans hx354_0); injection ea_ with ea_ en_ ec_; subst ea_; subst ec_; clear en_; have p355 : 0 ≤ (x5_1 : Int) := od; have q355 : x5_1 < (l0.length : Int) := od; obtain ⟨ad355, A355_0, c355_0, e355, hx355_0, hx355_1, hx355_2, hx355_3, hx355_4, hx355_5, hx355_6, hx355_7, hx355_8, hl355_0, hi355_0⟩ := at_T121 HR0.out x5_1 p355 q355; obtain rfl : ad350 = ad355 := (by injection e355); have HR355_0 := Aside0.mk hi355_0; have HC355_0 := Aside0.mk hl355_0; clear hi355_0 hl355_0; replace p355 := eq_true p355; replace q355 := eq_true q355; have ea_ := Option.some.inj (hx350_0.symm.trans hx355_0); injection ea_ with ea_ en_ ec_; subst ea_; subst ec_; clear en_))
                    go_ret
                    exact ⟨by first | rfl | (simp; done) | (simp [*]; done), by repeat (first | exact Drawn0.refl _ | apply Drawn0.step)⟩
                · rw [if_neg c9] at H
                  have c9b0 : (((rd_T121 l0 x5_1).f1.f2.f0) == (wrap64 ((wrap64 (t351 + 1)) + 1))) = false := beq_eq_false_iff_ne.mpr c9
                  have c9b1 : (((rd_T121 l0 x5_1).f1.f2.f0) != (wrap64 ((wrap64 (t351 + 1)) + 1))) = true := bne_iff_ne.mpr c9
                  obtain rfl := Option.some.inj H
                  have p350 : 0 ≤ (x5_1 : Int) := od
                  have q350 : x5_1 < (l0.length : Int) := od
                  obtain ⟨ad350, A350_0, c350_0, e350, hx350_0, hx350_1, hx350_2, hx350_3, hx350_4, hx350_5, hx350_6, hx350_7, hx350_8, hl350_0, hi350_0⟩ := at_T121 HR0.out x5_1 p350 q350
                  cases e350
                  have HR350_0 := Aside0.mk hi350_0
                  have HC350_0 := Aside0.mk hl350_0
                  clear hi350_0 hl350_0
                  replace p350 := eq_true p350
                  replace q350 := eq_true q350
                  go_wp2_with (first | ((with_reducible refine gate_callee (f := 101) rfl ?_); refine gl (some 18) Try.func101 #[.slice A350_0 ((rd_T121 l0 x5_1).f0).length c350_0, .int .i64 x1_1] ?_; (with_reducible refine (laws_heldPointS.calls k1 _ _ ((rd_T121 l0 x5_1).f0) x1_1 t351 _ ?side1 ?side2 A5.out).mono ?_); (case side1 => repeat (first | exact HR350_0.out | (with_reducible refine Kd.C_alloc ?_ _) | (with_reducible refine Kd.C_drewN ?_ _) | (with_reducible refine Kd.C_drew ?_))); (case side2 => exact HC350_0.out); rintro e w' ⟨rfl, ⟨nd, rfl⟩⟩; refine ⟨_, rfl, ?_⟩; have p352 : 0 ≤ (x5_1 : Int) := od; have q352 : x5_1 < (l0.length : Int) := od; obtain ⟨ad352, A352_0, c352_0, e352, hx352_0, hx352_1, hx352_2, hx352_3, hx352_4, hx352_5, hx352_6, hx352_7, hx352_8, hl352_0, hi352_0⟩ := at_T121 HR0.out x5_1 p352 q352; obtain rfl : ad350 = ad352 := (by injection e352); have HR352_0 := Aside0.mk hi352_0; have HC352_0 := Aside0.mk hl352_0; clear hi352_0 hl352_0; replace p352 := eq_true p352; replace q352 := eq_true q352; have ea_ := Option.some.inj (hx350_0.symm.trans hx352_0); injection ea_ with ea_ en_ ec_; subst ea_; subst ec_; clear en_; have p353 : 0 ≤ (x5_1 : Int) := od; have q353 : x5_1 < (l0.length : Int) := od; obtain ⟨ad353, A353_0, c353_0, e353, hx353_0, hx353_1, hx353_2, hx353_3, hx353_4, hx353_5, hx353_6, hx353_7, hx353_8, hl353_0, hi353_0⟩ := at_T121 HR0.out x5_1 p353 q353; obtain rfl : ad350 = ad353 := (by injection e353); have HR353_0 := Aside0.mk hi353_0; have HC353_0 := Aside0.mk hl353_0; clear hi353_0 hl353_0; replace p353 := eq_true p353; replace q353 := eq_true q353; have ea_ := Option.some.inj (hx350_0.symm.trans hx353_0); injection ea_ with ea_ en_ ec_; subst ea_; subst ec_; clear en_; have p354 : 0 ≤ (x5_1 : Int) := od; have q354 : x5_1 < (l0.length : Int) := od; obtain ⟨ad354, A354_0, c354_0, e354, hx354_0, hx354_1, hx354_2, hx354_3, hx354_4, hx354_5, hx354_6, hx354_7, hx354_8, hl354_0, hi354_0⟩ := at_T121 HR0.out x5_1 p354 q354; obtain rfl : ad350 = ad354 := (by injection e354); have HR354_0 := Aside0.mk hi354_0; have HC354_0 := Aside0.mk hl354_0; clear hi354_0 hl354_0; replace p354 := eq_true p354; replace q354 := eq_true q354; have ea_ := Option.some.inj (hx350_0.symm.trans hx354_0); injection ea_ with ea_ en_ ec_; subst ea_; subst ec_; clear en_))
                  go_ret
                  exact ⟨by first | rfl | (simp; done) | (simp [*]; done), by repeat (first | exact Drawn0.refl _ | apply Drawn0.step)⟩
            · rw [if_neg c7] at H
              have c7b0 : (((rd_T121 l0 x5_1).f1.f0) == t351) = false := beq_eq_false_iff_ne.mpr c7
              have c7b1 : (((rd_T121 l0 x5_1).f1.f0) != t351) = true := bne_iff_ne.mpr c7
              obtain rfl := Option.some.inj H
              have p350 : 0 ≤ (x5_1 : Int) := od
              have q350 : x5_1 < (l0.length : Int) := od
              obtain ⟨ad350, A350_0, c350_0, e350, hx350_0, hx350_1, hx350_2, hx350_3, hx350_4, hx350_5, hx350_6, hx350_7, hx350_8, hl350_0, hi350_0⟩ := at_T121 HR0.out x5_1 p350 q350
              cases e350
              have HR350_0 := Aside0.mk hi350_0
              have HC350_0 := Aside0.mk hl350_0
              clear hi350_0 hl350_0
              replace p350 := eq_true p350
              replace q350 := eq_true q350
              go_wp2_with (first | ((with_reducible refine gate_callee (f := 101) rfl ?_); refine gl (some 18) Try.func101 #[.slice A350_0 ((rd_T121 l0 x5_1).f0).length c350_0, .int .i64 x1_1] ?_; (with_reducible refine (laws_heldPointS.calls k1 _ _ ((rd_T121 l0 x5_1).f0) x1_1 t351 _ ?side1 ?side2 A5.out).mono ?_); (case side1 => repeat (first | exact HR350_0.out | (with_reducible refine Kd.C_alloc ?_ _) | (with_reducible refine Kd.C_drewN ?_ _) | (with_reducible refine Kd.C_drew ?_))); (case side2 => exact HC350_0.out); rintro e w' ⟨rfl, ⟨nd, rfl⟩⟩; refine ⟨_, rfl, ?_⟩; have p352 : 0 ≤ (x5_1 : Int) := od; have q352 : x5_1 < (l0.length : Int) := od; obtain ⟨ad352, A352_0, c352_0, e352, hx352_0, hx352_1, hx352_2, hx352_3, hx352_4, hx352_5, hx352_6, hx352_7, hx352_8, hl352_0, hi352_0⟩ := at_T121 HR0.out x5_1 p352 q352; obtain rfl : ad350 = ad352 := (by injection e352); have HR352_0 := Aside0.mk hi352_0; have HC352_0 := Aside0.mk hl352_0; clear hi352_0 hl352_0; replace p352 := eq_true p352; replace q352 := eq_true q352; have ea_ := Option.some.inj (hx350_0.symm.trans hx352_0); injection ea_ with ea_ en_ ec_; subst ea_; subst ec_; clear en_))
              go_ret
              exact ⟨by first | rfl | (simp; done) | (simp [*]; done), by repeat (first | exact Drawn0.refl _ | apply Drawn0.step)⟩
        · rw [if_neg c4] at H
          exact absurd H (by simp)
      · rw [if_neg c3] at H
        have c3b0 : decide (x5_1 < (l0.length : Int)) = false := decide_eq_false c3
        clear c3
        obtain rfl := Option.some.inj H
        go_wp2
        go_ret
        exact ⟨by first | rfl | (simp; done) | (simp [*]; done), by repeat (first | exact Drawn0.refl _ | apply Drawn0.step)⟩

/-! ### laws_heldState: function 43 -/
def laws_heldState.f (k : Nat) (l0_0 : List (S130)) (l0_1 : List (S121)) (l0_2 : List Int) (a1 : Int) : Option (Int) := (laws_heldPointS.f k l0_0 a1).bind fun t361 => (if t361 < 0 then (some (-1)) else ((laws_heldFaceS.f k l0_1 t361).bind fun t362 => (if t362 < 0 then (some (-1)) else ((laws_heldInt64S.f k l0_2 t362).bind fun t363 => (if t363 < 0 then (some (-1)) else (some t363))))))
theorem laws_heldState.mono : ∀ a0 a1 a2 a3 k, LeO (laws_heldState.f k a0 a1 a2 a3) (laws_heldState.f (k + 1) a0 a1 a2 a3) := by
  intro a0 a1 a2 a3 k
  unfold laws_heldState.f
  repeat' first
      | (with_reducible exact laws_heldFaceS.mono _ _ _)
      | (with_reducible exact laws_heldInt64S.mono _ _ _)
      | (with_reducible exact laws_heldPointS.mono _ _ _)
      | (with_reducible exact LeO.refl _)
      | (with_reducible exact LeO.none _)
      | (with_reducible refine LeO.ite ?_ ?_)
      | (with_reducible refine LeO.bind ?_ (fun _ => ?_))
      | exact laws_heldFaceS.mono _ _ _
      | exact laws_heldInt64S.mono _ _ _
      | exact laws_heldPointS.mono _ _ _
      | exact LeO.none _
      | refine LeO.ite ?_ ?_
      | refine LeO.bind ?_ (fun _ => ?_)
set_option maxHeartbeats 8000000 in
set_option maxRecDepth 100000 in
theorem laws_heldState.calls (k : Nat) (A0_0 : Option Addr) (c0_0 : Nat) (l0_0 : List (S130)) (A0_1 : Option Addr) (c0_1 : Nat) (l0_1 : List (S121)) (A0_2 : Option Addr) (c0_2 : Nat) (l0_2 : List Int) (a1 : Int) (r : Int) (w : World) (hr0_0 : Kd.C k130 w A0_0 l0_0.length l0_0) (hc0_0 : l0_0.length ≤ c0_0) (hr0_1 : Kd.C k121 w A0_1 l0_1.length l0_1) (hc0_1 : l0_1.length ≤ c0_1) (hr0_2 : Kd.C (Kd.int .i64) w A0_2 l0_2.length l0_2) (hc0_2 : l0_2.length ≤ c0_2) (h : laws_heldState.f k l0_0 l0_1 l0_2 a1 = some r) :
    Calls Try.prog 43 #[.agg #[.slice A0_0 l0_0.length c0_0, .slice A0_1 l0_1.length c0_1, .slice A0_2 l0_2.length c0_2], .int .i64 a1] w fun e w' => e = .returned (.int .i64 r) ∧ Below w.heap.size w w' := by
  have hu65 := Try.underlying65
  have HR0_0 := Aside0.mk hr0_0
  have HC0_0 := Aside0.mk hc0_0
  clear hr0_0 hc0_0
  have HR0_1 := Aside0.mk hr0_1
  have HC0_1 := Aside0.mk hc0_1
  clear hr0_1 hc0_1
  have HR0_2 := Aside0.mk hr0_2
  have HC0_2 := Aside0.mk hc0_2
  clear hr0_2 hc0_2
  have HB := Aside0.mk (Below.refl w.heap.size w)
  have H : ((laws_heldPointS.f k l0_0 a1).bind fun t361 => (if t361 < 0 then (some (-1)) else ((laws_heldFaceS.f k l0_1 t361).bind fun t362 => (if t362 < 0 then (some (-1)) else ((laws_heldInt64S.f k l0_2 t362).bind fun t363 => (if t363 < 0 then (some (-1)) else (some t363))))))) = some r := h
  clear h
  replace H := Option.bind_eq_some_iff.mp H
  obtain ⟨t361, A30, H⟩ := H
  replace H : (if t361 < 0 then (some (-1)) else ((laws_heldFaceS.f k l0_1 t361).bind fun t362 => (if t362 < 0 then (some (-1)) else ((laws_heldInt64S.f k l0_2 t362).bind fun t363 => (if t363 < 0 then (some (-1)) else (some t363)))))) = some r := H
  have A3 := Aside0.mk A30
  clear A30
  by_cases c4 : t361 < 0
  · rw [if_pos c4] at H
    have c4b0 : decide (t361 < 0) = true := decide_eq_true c4
    clear c4
    obtain rfl := Option.some.inj H
    go_enter Try.func43, Try.ntmps43
    go_wp2_with (first | ((with_reducible refine gate_dst (N := 2) rfl ?_); refine bx #[.slice A0_0 l0_0.length c0_0, .slice A0_1 l0_1.length c0_1, .slice A0_2 l0_2.length c0_2] 65 ?_; intro gb360 hg w5 hbox hb; have BK360 := Aside0.mk hbox; have GW360 := bg hg; have GE360 := bg hg; replace HB := bs hb; clear hb hbox hg; obtain ⟨z6_0, z6_1, z6_2, y6_0, y6_1, y6_2⟩ := bq3 BK360) | ((with_reducible refine gate_callee (f := 101) rfl ?_); refine gl (some 8) Try.func101 #[.slice A0_0 l0_0.length c0_0, .int .i64 a1] ?_; (with_reducible refine (laws_heldPointS.calls k _ _ l0_0 a1 t361 _ ?side1 ?side2 A3.out).mono ?_); (case side1 => exact sd HR0_0); (case side2 => exact HC0_0.out); rintro e w' ⟨rfl, ⟨nd, rfl⟩⟩; refine ⟨_, rfl, ?_⟩))
    go_ret
    exact ⟨er, bw⟩
  · rw [if_neg c4] at H
    have c4b0 : decide (t361 < 0) = false := decide_eq_false c4
    clear c4
    replace H := Option.bind_eq_some_iff.mp H
    obtain ⟨t362, A70, H⟩ := H
    replace H : (if t362 < 0 then (some (-1)) else ((laws_heldInt64S.f k l0_2 t362).bind fun t363 => (if t363 < 0 then (some (-1)) else (some t363)))) = some r := H
    have A7 := Aside0.mk A70
    clear A70
    by_cases c8 : t362 < 0
    · rw [if_pos c8] at H
      have c8b0 : decide (t362 < 0) = true := decide_eq_true c8
      clear c8
      obtain rfl := Option.some.inj H
      go_enter Try.func43, Try.ntmps43
      go_wp2_with (first | ((with_reducible refine gate_dst (N := 2) rfl ?_); refine bx #[.slice A0_0 l0_0.length c0_0, .slice A0_1 l0_1.length c0_1, .slice A0_2 l0_2.length c0_2] 65 ?_; intro gb360 hg w9 hbox hb; have BK360 := Aside0.mk hbox; have GW360 := bg hg; have GE360 := bg hg; replace HB := bs hb; clear hb hbox hg; obtain ⟨z10_0, z10_1, z10_2, y10_0, y10_1, y10_2⟩ := bq3 BK360) | ((with_reducible refine gate_callee (f := 101) rfl ?_); refine gl (some 8) Try.func101 #[.slice A0_0 l0_0.length c0_0, .int .i64 a1] ?_; (with_reducible refine (laws_heldPointS.calls k _ _ l0_0 a1 t361 _ ?side1 ?side2 A3.out).mono ?_); (case side1 => exact sd HR0_0); (case side2 => exact HC0_0.out); rintro e w' ⟨rfl, ⟨nd, rfl⟩⟩; refine ⟨_, rfl, ?_⟩) | ((with_reducible refine gate_callee (f := 102) rfl ?_); refine gl (some 14) Try.func102 #[.slice A0_1 l0_1.length c0_1, .int .i64 t361] ?_; (with_reducible refine (laws_heldFaceS.calls k _ _ l0_1 t361 t362 _ ?side1 ?side2 A7.out).mono ?_); (case side1 => repeat (first | exact (Kd.C_below HR0_1.out bw) | (with_reducible refine Kd.C_alloc ?_ _) | (with_reducible refine Kd.C_drewN ?_ _) | (with_reducible refine Kd.C_drew ?_))); (case side2 => exact HC0_1.out); rintro e w' ⟨rfl, ⟨nd, rfl⟩⟩; refine ⟨_, rfl, ?_⟩))
      go_ret
      exact ⟨er, bw⟩
    · rw [if_neg c8] at H
      have c8b0 : decide (t362 < 0) = false := decide_eq_false c8
      clear c8
      replace H := Option.bind_eq_some_iff.mp H
      obtain ⟨t363, A110, H⟩ := H
      replace H : (if t363 < 0 then (some (-1)) else (some t363)) = some r := H
      have A11 := Aside0.mk A110
      clear A110
      by_cases c12 : t363 < 0
      · rw [if_pos c12] at H
        have c12b0 : decide (t363 < 0) = true := decide_eq_true c12
        clear c12
        obtain rfl := Option.some.inj H
        go_enter Try.func43, Try.ntmps43
        go_wp2_with (first | ((with_reducible refine gate_dst (N := 2) rfl ?_); refine bx #[.slice A0_0 l0_0.length c0_0, .slice A0_1 l0_1.length c0_1, .slice A0_2 l0_2.length c0_2] 65 ?_; intro gb360 hg w13 hbox hb; have BK360 := Aside0.mk hbox; have GW360 := bg hg; have GE360 := bg hg; replace HB := bs hb; clear hb hbox hg; obtain ⟨z14_0, z14_1, z14_2, y14_0, y14_1, y14_2⟩ := bq3 BK360) | ((with_reducible refine gate_callee (f := 101) rfl ?_); refine gl (some 8) Try.func101 #[.slice A0_0 l0_0.length c0_0, .int .i64 a1] ?_; (with_reducible refine (laws_heldPointS.calls k _ _ l0_0 a1 t361 _ ?side1 ?side2 A3.out).mono ?_); (case side1 => exact sd HR0_0); (case side2 => exact HC0_0.out); rintro e w' ⟨rfl, ⟨nd, rfl⟩⟩; refine ⟨_, rfl, ?_⟩) | ((with_reducible refine gate_callee (f := 102) rfl ?_); refine gl (some 14) Try.func102 #[.slice A0_1 l0_1.length c0_1, .int .i64 t361] ?_; (with_reducible refine (laws_heldFaceS.calls k _ _ l0_1 t361 t362 _ ?side1 ?side2 A7.out).mono ?_); (case side1 => repeat (first | exact (Kd.C_below HR0_1.out bw) | (with_reducible refine Kd.C_alloc ?_ _) | (with_reducible refine Kd.C_drewN ?_ _) | (with_reducible refine Kd.C_drew ?_))); (case side2 => exact HC0_1.out); rintro e w' ⟨rfl, ⟨nd, rfl⟩⟩; refine ⟨_, rfl, ?_⟩) | ((with_reducible refine gate_callee (f := 38) rfl ?_); refine gl (some 20) Try.func38 #[.slice A0_2 l0_2.length c0_2, .int .i64 t362] ?_; (with_reducible refine (laws_heldInt64S.calls k _ _ l0_2 t362 t363 _ ?side1 ?side2 A11.out).mono ?_); (case side1 => repeat (first | exact (Kd.C_below HR0_2.out bw) | (with_reducible refine Kd.C_alloc ?_ _) | (with_reducible refine Kd.C_drewN ?_ _) | (with_reducible refine Kd.C_drew ?_))); (case side2 => exact HC0_2.out); rintro e w' ⟨rfl, ⟨nd, rfl⟩⟩; refine ⟨_, rfl, ?_⟩))
        go_ret
        exact ⟨er, bw⟩
      · rw [if_neg c12] at H
        have c12b0 : decide (t363 < 0) = false := decide_eq_false c12
        clear c12
        obtain rfl := Option.some.inj H
        go_enter Try.func43, Try.ntmps43
        go_wp2_with (first | ((with_reducible refine gate_dst (N := 2) rfl ?_); refine bx #[.slice A0_0 l0_0.length c0_0, .slice A0_1 l0_1.length c0_1, .slice A0_2 l0_2.length c0_2] 65 ?_; intro gb360 hg w15 hbox hb; have BK360 := Aside0.mk hbox; have GW360 := bg hg; have GE360 := bg hg; replace HB := bs hb; clear hb hbox hg; obtain ⟨z16_0, z16_1, z16_2, y16_0, y16_1, y16_2⟩ := bq3 BK360) | ((with_reducible refine gate_callee (f := 101) rfl ?_); refine gl (some 8) Try.func101 #[.slice A0_0 l0_0.length c0_0, .int .i64 a1] ?_; (with_reducible refine (laws_heldPointS.calls k _ _ l0_0 a1 t361 _ ?side1 ?side2 A3.out).mono ?_); (case side1 => exact sd HR0_0); (case side2 => exact HC0_0.out); rintro e w' ⟨rfl, ⟨nd, rfl⟩⟩; refine ⟨_, rfl, ?_⟩) | ((with_reducible refine gate_callee (f := 102) rfl ?_); refine gl (some 14) Try.func102 #[.slice A0_1 l0_1.length c0_1, .int .i64 t361] ?_; (with_reducible refine (laws_heldFaceS.calls k _ _ l0_1 t361 t362 _ ?side1 ?side2 A7.out).mono ?_); (case side1 => repeat (first | exact (Kd.C_below HR0_1.out bw) | (with_reducible refine Kd.C_alloc ?_ _) | (with_reducible refine Kd.C_drewN ?_ _) | (with_reducible refine Kd.C_drew ?_))); (case side2 => exact HC0_1.out); rintro e w' ⟨rfl, ⟨nd, rfl⟩⟩; refine ⟨_, rfl, ?_⟩) | ((with_reducible refine gate_callee (f := 38) rfl ?_); refine gl (some 20) Try.func38 #[.slice A0_2 l0_2.length c0_2, .int .i64 t362] ?_; (with_reducible refine (laws_heldInt64S.calls k _ _ l0_2 t362 t363 _ ?side1 ?side2 A11.out).mono ?_); (case side1 => repeat (first | exact (Kd.C_below HR0_2.out bw) | (with_reducible refine Kd.C_alloc ?_ _) | (with_reducible refine Kd.C_drewN ?_ _) | (with_reducible refine Kd.C_drew ?_))); (case side2 => exact HC0_2.out); rintro e w' ⟨rfl, ⟨nd, rfl⟩⟩; refine ⟨_, rfl, ?_⟩))
        go_ret
        exact ⟨er, bw⟩

-- NOT PRINTED: function 9 (laws_FnExactStackState)

end Go.Proofs.Yteadienaeapaeaa.PT
