-- Made by a program of this session (myprint.py) out of the translation.
import Derived.Test.YteadienaeapaeaaZskPKx0
import Derived.Test.YteadienaeapaeaaZskPKx2
import Derived.Test.YteadienaeapaeaaZskShort
namespace Go.Proofs.Yteadienaeapaeaa.PK
open Go.Proofs.Yteadienaeapaeaa.Short
open Go.Proofs.Yteadienaeapaeaa.Dyn
open Go.RowKit Go.Proofs.YteadienaeapaeaaW.PrintWords Go.Proofs.YteadienaeapaeaaW.PrintLast Go.Proofs.YteadienaeapaeaaW.PrintMore
attribute [local go_sem] max2_int min2_int max_two min_two max_three min_three max_four min_four   -- for this text's walks alone
set_option linter.unusedVariables false
set_option linter.unusedSimpArgs false

/-! ### spec_l26Cross: function 85 -/
mutual
def spec_l26Cross.l0 : Nat → Int → Int → List Int → Int → Option ((List (S112)) × Bool)
  | 0, _, _, _, _ => none
  | k + 1, x0, x1, x2, x8 => if x8 ≤ 4 then ((spec_l26Pairs.f k x0 x1 x8).bind fun t141 => (spec_l26Cross.l1 k x0 x1 x2 x8 t141 0)) else (some ((([] : List (S112))), false))
def spec_l26Cross.l1 : Nat → Int → Int → List Int → Int → List (S112) → Int → Option ((List (S112)) × Bool)
  | 0, _, _, _, _, _, _ => none
  | k + 1, x0, x1, x2, x8, x9, x10 => if x10 < (x9.length : Int) then (if 0 ≤ x10 then (if 0 ≤ ((rd_T112 x9 x10).f0) then (if ((rd_T112 x9 x10).f0) < (x2.length : Int) then (if 0 ≤ ((rd_T112 x9 x10).f1) then (if ((rd_T112 x9 x10).f1) < (x2.length : Int) then (spec_l26Cross.l2 k x0 x1 x2 x8 x9 x10 (rd x2 ((rd_T112 x9 x10).f0)) (rd x2 ((rd_T112 x9 x10).f1)) (wrap64 (x10 + 1))) else (none)) else (none)) else (none)) else (none)) else (none)) else (spec_l26Cross.l0 k x0 x1 x2 (wrap64 (x8 + 1)))
def spec_l26Cross.l2 : Nat → Int → Int → List Int → Int → List (S112) → Int → Int → Int → Int → Option ((List (S112)) × Bool)
  | 0, _, _, _, _, _, _, _, _, _ => none
  | k + 1, x0, x1, x2, x8, x9, x10, x11, x12, x13 => if x13 < (x9.length : Int) then (if 0 ≤ x13 then (if 0 ≤ ((rd_T112 x9 x13).f0) then (if ((rd_T112 x9 x13).f0) < (x2.length : Int) then ((spec_l25Between.f (rd x2 ((rd_T112 x9 x13).f0)) x11 x12).bind fun t150 => (if 0 ≤ ((rd_T112 x9 x13).f1) then (if ((rd_T112 x9 x13).f1) < (x2.length : Int) then ((spec_l25Between.f (rd x2 ((rd_T112 x9 x13).f1)) x11 x12).bind fun t153 => (if (t150 != t153) = true then (if 0 ≤ x10 then (if x10 < (x9.length : Int) then (some ((([(⟨(rd_T112 x9 x10).f0, (rd_T112 x9 x10).f1⟩ : S112), (⟨(rd_T112 x9 x13).f0, (rd_T112 x9 x13).f1⟩ : S112)] : List (S112))), true)) else (none)) else (none)) else (spec_l26Cross.l2 k x0 x1 x2 x8 x9 x10 x11 x12 (wrap64 (x13 + 1))))) else (none)) else (none))) else (none)) else (none)) else (none)) else (spec_l26Cross.l1 k x0 x1 x2 x8 x9 (wrap64 (x10 + 1)))
end
def spec_l26Cross.f (k : Nat) (a0 : Int) (a1 : Int) (l2 : List Int) : Option ((List (S112)) × Bool) := spec_l26Cross.l0 k a0 a1 l2 1
theorem spec_l26Cross.mono_l : ∀ k, (∀ y0 y1 y2 y3, LeO (spec_l26Cross.l0 k y0 y1 y2 y3) (spec_l26Cross.l0 (k + 1) y0 y1 y2 y3)) ∧ (∀ y0 y1 y2 y3 y4 y5, LeO (spec_l26Cross.l1 k y0 y1 y2 y3 y4 y5) (spec_l26Cross.l1 (k + 1) y0 y1 y2 y3 y4 y5)) ∧ (∀ y0 y1 y2 y3 y4 y5 y6 y7 y8, LeO (spec_l26Cross.l2 k y0 y1 y2 y3 y4 y5 y6 y7 y8) (spec_l26Cross.l2 (k + 1) y0 y1 y2 y3 y4 y5 y6 y7 y8))
  | 0 => ⟨fun _ _ _ _ r h => by simp [spec_l26Cross.l0] at h, fun _ _ _ _ _ _ r h => by simp [spec_l26Cross.l1] at h, fun _ _ _ _ _ _ _ _ _ r h => by simp [spec_l26Cross.l2] at h⟩
  | k + 1 => by
    obtain ⟨ih0, ih1, ih2⟩ := spec_l26Cross.mono_l k
    refine ⟨?_, ?_, ?_⟩
    · intro y0 y1 y2 y3
      unfold spec_l26Cross.l0
      repeat' first
      | (with_reducible exact ih0 _ _ _ _)
      | (with_reducible exact ih1 _ _ _ _ _ _)
      | (with_reducible exact ih2 _ _ _ _ _ _ _ _ _)
      | (with_reducible exact spec_l26Pairs.mono _ _ _ _)
      | (with_reducible exact LeO.refl _)
      | (with_reducible exact LeO.none _)
      | (with_reducible refine LeO.ite ?_ ?_)
      | (with_reducible refine LeO.bind ?_ (fun _ => ?_))
      | exact ih0 _ _ _ _
      | exact ih1 _ _ _ _ _ _
      | exact ih2 _ _ _ _ _ _ _ _ _
      | exact spec_l26Pairs.mono _ _ _ _
      | exact LeO.none _
      | refine LeO.ite ?_ ?_
      | refine LeO.bind ?_ (fun _ => ?_)
    · intro y0 y1 y2 y3 y4 y5
      unfold spec_l26Cross.l1
      repeat' first
      | (with_reducible exact ih0 _ _ _ _)
      | (with_reducible exact ih1 _ _ _ _ _ _)
      | (with_reducible exact ih2 _ _ _ _ _ _ _ _ _)
      | (with_reducible exact spec_l26Pairs.mono _ _ _ _)
      | (with_reducible exact LeO.refl _)
      | (with_reducible exact LeO.none _)
      | (with_reducible refine LeO.ite ?_ ?_)
      | (with_reducible refine LeO.bind ?_ (fun _ => ?_))
      | exact ih0 _ _ _ _
      | exact ih1 _ _ _ _ _ _
      | exact ih2 _ _ _ _ _ _ _ _ _
      | exact spec_l26Pairs.mono _ _ _ _
      | exact LeO.none _
      | refine LeO.ite ?_ ?_
      | refine LeO.bind ?_ (fun _ => ?_)
    · intro y0 y1 y2 y3 y4 y5 y6 y7 y8
      unfold spec_l26Cross.l2
      repeat' first
      | (with_reducible exact ih0 _ _ _ _)
      | (with_reducible exact ih1 _ _ _ _ _ _)
      | (with_reducible exact ih2 _ _ _ _ _ _ _ _ _)
      | (with_reducible exact spec_l26Pairs.mono _ _ _ _)
      | (with_reducible exact LeO.refl _)
      | (with_reducible exact LeO.none _)
      | (with_reducible refine LeO.ite ?_ ?_)
      | (with_reducible refine LeO.bind ?_ (fun _ => ?_))
      | exact ih0 _ _ _ _
      | exact ih1 _ _ _ _ _ _
      | exact ih2 _ _ _ _ _ _ _ _ _
      | exact spec_l26Pairs.mono _ _ _ _
      | exact LeO.none _
      | refine LeO.ite ?_ ?_
      | refine LeO.bind ?_ (fun _ => ?_)
theorem spec_l26Cross.mono : ∀ a0 a1 a2 k, LeO (spec_l26Cross.f k a0 a1 a2) (spec_l26Cross.f (k + 1) a0 a1 a2) := by
  intro a0 a1 a2 k
  obtain ⟨ih0, ih1, ih2⟩ := spec_l26Cross.mono_l k
  unfold spec_l26Cross.f
  repeat' first
      | (with_reducible exact ih0 _ _ _ _)
      | (with_reducible exact ih1 _ _ _ _ _ _)
      | (with_reducible exact ih2 _ _ _ _ _ _ _ _ _)
      | (with_reducible exact spec_l26Pairs.mono _ _ _ _)
      | (with_reducible exact LeO.refl _)
      | (with_reducible exact LeO.none _)
      | (with_reducible refine LeO.ite ?_ ?_)
      | (with_reducible refine LeO.bind ?_ (fun _ => ?_))
      | exact ih0 _ _ _ _
      | exact ih1 _ _ _ _ _ _
      | exact ih2 _ _ _ _ _ _ _ _ _
      | exact spec_l26Pairs.mono _ _ _ _
      | exact LeO.none _
      | refine LeO.ite ?_ ?_
      | refine LeO.bind ?_ (fun _ => ?_)
def spec_l26Cross.T13 : Bool × List (List Nat × List Nat) := (true, [([], []), ([], []), ([], []), ([1, 2], [1, 2]), ([3], [3]), ([4], [4]), ([0, 5], [0, 5]), ([6], [6]), ([], []), ([], []), ([7, 8, 9], [7, 8, 9]), ([], []), ([], []), ([], []), ([12, 13], [12, 13]), ([14], [14]), ([15], [15]), ([11, 16], [11, 16]), ([17], [17]), ([], []), ([], []), ([18, 19, 20, 10], [18, 19, 20]), ([10, 21], [10, 21])])
def spec_l26Cross.B13 : List Nat := [0, 0, 0, 6, 14, 30, 63, 127, 0, 0, 1023, 0, 0, 0, 12288, 28672, 61440, 129024, 260096, 0, 0, 2097151, 4194303]
theorem spec_l26Cross.tab13 : rtab .any (opsOf Try.f85 13) = spec_l26Cross.T13 := by kernel_rfl
theorem spec_l26Cross.bits13 : waitsOk spec_l26Cross.T13.2 spec_l26Cross.B13 = true := by kernel_rfl
def spec_l26Cross.T14 : Bool × List (List Nat × List Nat) := (true, [([], []), ([], []), ([0, 1], [0, 1]), ([2], [2]), ([], []), ([], []), ([4, 5], [4, 5]), ([6], [6]), ([3, 7], [3, 7]), ([8, 0, 1, 2, 3, 4, 5, 6, 7, 8], [8]), ([9, 0, 1, 2, 3, 4, 5, 6, 7, 8, 9], [])])
def spec_l26Cross.B14 : List Nat := [0, 0, 3, 7, 0, 0, 48, 112, 255, 511, 1023]
theorem spec_l26Cross.tab14 : rtab .any (opsOf Try.f85 14) = spec_l26Cross.T14 := by kernel_rfl
theorem spec_l26Cross.bits14 : waitsOk spec_l26Cross.T14.2 spec_l26Cross.B14 = true := by kernel_rfl
set_option maxHeartbeats 8000000 in
set_option maxRecDepth 100000 in
theorem spec_l26Cross.calls (k : Nat) (a0 : Int) (a1 : Int) (A2 : Option Addr) (c2 : Nat) (l2 : List Int) (r1 : List (S112)) (r2 : Bool) (w : World) (hr2 : Kd.C (Kd.int .i64) w A2 l2.length l2) (hc2 : l2.length ≤ c2) (h : spec_l26Cross.f k a0 a1 l2 = some (r1, r2)) :
    Calls Try.prog 85 #[.int .i64 a0, .int .i64 a1, .slice A2 l2.length c2] w fun e w' => ∃ v0_ : Value, e = .returned (.tuple #[v0_, .bool r2]) ∧ Kd.R k112 112 w' w.heap.size (fun _ => True) v0_ r1 ∧ Below w.heap.size w w' := by
  have hu112 := Try.underlying112
  have HR2 := Aside0.mk hr2
  have HC2 := Aside0.mk hc2
  clear hr2 hc2
  have HB := Aside0.mk (Below.refl w.heap.size w)
  have H : (spec_l26Cross.l0 k a0 a1 l2 1) = some (r1, r2) := h
  clear h
  have H' := Aside0.mk H
  clear H
  go_enter Try.func85, Try.ntmps85
  go_wp2
  go_loopg [8] k (fun kq v8 w' => ∃ (x8_1 : Int), v8 = .int .i64 x8_1 ∧ Aside0 (spec_l26Cross.l0 kq a0 a1 l2 x8_1 = some (r1, r2)) ∧ Aside0 (kq ≤ k) ∧ Aside0 (Below w.heap.size w w'))
  case atStart => exact ⟨(1), (by first | rfl | (simp; done) | (simp [*]; done)), H', ⟨Nat.le_refl _⟩, ⟨bw⟩⟩
  case round =>
    clear H'
    try clear c2
    try clear p2
    obtain ⟨x8_1, rfl, HA, HK1, HB⟩ := hrel
    cases gk with
    | zero => exact absurd HA.out (by simp [spec_l26Cross.l0])
    | succ k1 =>
      have H := HA.out
      clear HA
      simp only [spec_l26Cross.l0] at H
      by_cases c4 : x8_1 ≤ 4
      · rw [if_pos c4] at H
        have c4b0 : decide (x8_1 ≤ 4) = true := decide_eq_true c4
        clear c4
        replace H := Option.bind_eq_some_iff.mp H
        obtain ⟨t141, A50, H⟩ := H
        replace H : (spec_l26Cross.l1 k1 a0 a1 l2 x8_1 t141 0) = some (r1, r2) := H
        have A5 := Aside0.mk A50
        clear A50
        have H' := Aside0.mk H
        clear H
        go_wp2_with (first | ((with_reducible refine gate_callee (f := 145) rfl ?_); refine gl (some 21) Try.func145 #[.int .i64 a0, .int .i64 a1, .int .i64 x8_1] ?_; (with_reducible refine (spec_l26Pairs.calls k1 a0 a1 x8_1 t141 _ A5.out).mono ?_); rintro e w6 ⟨v142, rfl, ho0, hb⟩; refine ⟨_, rfl, ?_⟩; have HO143 := Aside0.mk (Kd.R_lower ho0 (below_size bw)); replace HB := bs hb; (try clear hb); (try clear hb2); (try clear hk); (try clear hi); (try clear ho0)))
        go_loopg [10] k1 (fun kq v10 w' => ∃ (x10_2 : Int), v10 = .int .i64 x10_2 ∧ Aside0 (spec_l26Cross.l1 kq a0 a1 l2 x8_1 t141 x10_2 = some (r1, r2)) ∧ Aside0 (kq ≤ k1) ∧ Aside0 (Kd.R k112 112 w' w.heap.size (fun _ => True) v142 t141) ∧ Aside0 (Below w.heap.size w w'))
        case atStart => exact ⟨(0), (by first | rfl | (simp; done) | (simp [*]; done)), H', ⟨Nat.le_refl _⟩, ⟨by refine ra (h := ?_); exact HO143.out⟩, ⟨bw⟩⟩
        case round =>
          clear H'
          try clear c1
          try clear c2
          try clear p2
          try clear c4
          try clear c4b0
          try clear p2
          obtain ⟨x10_2, rfl, HA, HK2, HO_9, HB⟩ := hrel
          cases gk with
          | zero => exact absurd HA.out (by simp [spec_l26Cross.l1])
          | succ k2 =>
            have H := HA.out
            clear HA
            simp only [spec_l26Cross.l1] at H
            by_cases c7 : x10_2 < (t141.length : Int)
            · rw [if_pos c7] at H
              have c7b0 : decide (x10_2 < (t141.length : Int)) = true := decide_eq_true c7
              clear c7
              by_cases c8 : 0 ≤ x10_2
              · rw [if_pos c8] at H
                have c8b0 : decide (0 ≤ x10_2) = true := decide_eq_true c8
                clear c8
                by_cases c9 : 0 ≤ ((rd_T112 t141 x10_2).f0)
                · rw [if_pos c9] at H
                  have c9b0 : decide (0 ≤ ((rd_T112 t141 x10_2).f0)) = true := decide_eq_true c9
                  clear c9
                  by_cases c10 : ((rd_T112 t141 x10_2).f0) < (l2.length : Int)
                  · rw [if_pos c10] at H
                    have c10b0 : decide (((rd_T112 t141 x10_2).f0) < (l2.length : Int)) = true := decide_eq_true c10
                    clear c10
                    by_cases c11 : 0 ≤ ((rd_T112 t141 x10_2).f1)
                    · rw [if_pos c11] at H
                      have c11b0 : decide (0 ≤ ((rd_T112 t141 x10_2).f1)) = true := decide_eq_true c11
                      clear c11
                      by_cases c12 : ((rd_T112 t141 x10_2).f1) < (l2.length : Int)
                      · rw [if_pos c12] at H
                        have c12b0 : decide (((rd_T112 t141 x10_2).f1) < (l2.length : Int)) = true := decide_eq_true c12
                        clear c12
                        have H' := Aside0.mk H
                        clear H
                        obtain ⟨Ao13, co13, eo13⟩ := Kd.R_slice HO_9.out
                        subst eo13
                        have p144 : 0 ≤ (x10_2 : Int) := od
                        have q144 : x10_2 < (t141.length : Int) := od
                        obtain ⟨ad144, e144, hx144_0, hx144_1⟩ := at_T112 (Kd.R_reads' HO_9.out).2.2 x10_2 p144 q144
                        cases e144
                        replace p144 := eq_true p144
                        replace q144 := eq_true q144
                        have p145 : 0 ≤ (((rd_T112 t141 x10_2).f0) : Int) := od
                        have q145 : ((rd_T112 t141 x10_2).f0) < (l2.length : Int) := od
                        obtain ⟨ad145, e145, hx145_0⟩ := Kd.at_int HR2.out ((rd_T112 t141 x10_2).f0) p145 q145
                        cases e145
                        replace hx145_0 := bc hx145_0
                        replace p145 := eq_true p145
                        replace q145 := eq_true q145
                        have p146 : 0 ≤ (x10_2 : Int) := od
                        have q146 : x10_2 < (t141.length : Int) := od
                        obtain ⟨ad146, e146, hx146_0, hx146_1⟩ := at_T112 (Kd.R_reads' HO_9.out).2.2 x10_2 p146 q146
                        obtain rfl : ad144 = ad146 := (by injection e146)
                        replace p146 := eq_true p146
                        replace q146 := eq_true q146
                        have p147 : 0 ≤ (((rd_T112 t141 x10_2).f1) : Int) := od
                        have q147 : ((rd_T112 t141 x10_2).f1) < (l2.length : Int) := od
                        obtain ⟨ad147, e147, hx147_0⟩ := Kd.at_int HR2.out ((rd_T112 t141 x10_2).f1) p147 q147
                        obtain rfl : ad145 = ad147 := (by injection e147)
                        replace hx147_0 := bc hx147_0
                        replace p147 := eq_true p147
                        replace q147 := eq_true q147
                        go_wp2
                        go_loopg [13] k2 (fun kq v13 w' => ∃ (x13_3 : Int), v13 = .int .i64 x13_3 ∧ Aside0 (spec_l26Cross.l2 kq a0 a1 l2 x8_1 t141 x10_2 (rd l2 ((rd_T112 t141 x10_2).f0)) (rd l2 ((rd_T112 t141 x10_2).f1)) x13_3 = some (r1, r2)) ∧ Aside0 (kq ≤ k2) ∧ Aside0 (Kd.R k112 112 w' w.heap.size (fun _ => True) (.slice (some ad144) t141.length co13) t141) ∧ Aside0 (Below w.heap.size w w'))
                        case atStart => exact ⟨(wrap64 (x10_2 + 1)), (by first | rfl | (simp; done) | (simp [*]; done)), H', ⟨Nat.le_refl _⟩, ⟨by refine ra (h := ?_); exact HO_9.out⟩, ⟨bw⟩⟩
                        case round =>
                          clear H'
                          try clear c1
                          try clear p1
                          try clear q1
                          try clear hx1
                          try clear c2
                          try clear p2
                          try clear c4
                          try clear c4b0
                          try clear p6
                          try clear c7
                          try clear c7b0
                          try clear c8
                          try clear c8b0
                          try clear c9
                          try clear c9b0
                          try clear c10
                          try clear c10b0
                          try clear c11
                          try clear c11b0
                          try clear c12
                          try clear c12b0
                          try clear hx144_0
                          try clear hx144_1
                          try clear hx145_0
                          try clear hx146_0
                          try clear hx146_1
                          try clear hx147_0
                          try clear p144
                          try clear p145
                          try clear p146
                          try clear p147
                          try clear p2
                          try clear q144
                          try clear q145
                          try clear q146
                          try clear q147
                          obtain ⟨x13_3, rfl, HA, HK3, HO_9, HB⟩ := hrel
                          cases gk with
                          | zero => exact absurd HA.out (by simp [spec_l26Cross.l2])
                          | succ k3 =>
                            have H := HA.out
                            clear HA
                            simp only [spec_l26Cross.l2] at H
                            by_cases c14 : x13_3 < (t141.length : Int)
                            · rw [if_pos c14] at H
                              have c14b0 : decide (x13_3 < (t141.length : Int)) = true := decide_eq_true c14
                              clear c14
                              by_cases c15 : 0 ≤ x13_3
                              · rw [if_pos c15] at H
                                have c15b0 : decide (0 ≤ x13_3) = true := decide_eq_true c15
                                clear c15
                                by_cases c16 : 0 ≤ ((rd_T112 t141 x13_3).f0)
                                · rw [if_pos c16] at H
                                  have c16b0 : decide (0 ≤ ((rd_T112 t141 x13_3).f0)) = true := decide_eq_true c16
                                  clear c16
                                  by_cases c17 : ((rd_T112 t141 x13_3).f0) < (l2.length : Int)
                                  · rw [if_pos c17] at H
                                    have c17b0 : decide (((rd_T112 t141 x13_3).f0) < (l2.length : Int)) = true := decide_eq_true c17
                                    clear c17
                                    replace H := Option.bind_eq_some_iff.mp H
                                    obtain ⟨t150, A180, H⟩ := H
                                    replace H : (if 0 ≤ ((rd_T112 t141 x13_3).f1) then (if ((rd_T112 t141 x13_3).f1) < (l2.length : Int) then ((spec_l25Between.f (rd l2 ((rd_T112 t141 x13_3).f1)) (rd l2 ((rd_T112 t141 x10_2).f0)) (rd l2 ((rd_T112 t141 x10_2).f1))).bind fun t153 => (if (t150 != t153) = true then (if 0 ≤ x10_2 then (if x10_2 < (t141.length : Int) then (some ((([(⟨(rd_T112 t141 x10_2).f0, (rd_T112 t141 x10_2).f1⟩ : S112), (⟨(rd_T112 t141 x13_3).f0, (rd_T112 t141 x13_3).f1⟩ : S112)] : List (S112))), true)) else (none)) else (none)) else (spec_l26Cross.l2 k3 a0 a1 l2 x8_1 t141 x10_2 (rd l2 ((rd_T112 t141 x10_2).f0)) (rd l2 ((rd_T112 t141 x10_2).f1)) (wrap64 (x13_3 + 1))))) else (none)) else (none)) = some (r1, r2) := H
                                    have A18 := Aside0.mk A180
                                    clear A180
                                    by_cases c19 : 0 ≤ ((rd_T112 t141 x13_3).f1)
                                    · rw [if_pos c19] at H
                                      have c19b0 : decide (0 ≤ ((rd_T112 t141 x13_3).f1)) = true := decide_eq_true c19
                                      clear c19
                                      by_cases c20 : ((rd_T112 t141 x13_3).f1) < (l2.length : Int)
                                      · rw [if_pos c20] at H
                                        have c20b0 : decide (((rd_T112 t141 x13_3).f1) < (l2.length : Int)) = true := decide_eq_true c20
                                        clear c20
                                        replace H := Option.bind_eq_some_iff.mp H
                                        obtain ⟨t153, A210, H⟩ := H
                                        replace H : (if (t150 != t153) = true then (if 0 ≤ x10_2 then (if x10_2 < (t141.length : Int) then (some ((([(⟨(rd_T112 t141 x10_2).f0, (rd_T112 t141 x10_2).f1⟩ : S112), (⟨(rd_T112 t141 x13_3).f0, (rd_T112 t141 x13_3).f1⟩ : S112)] : List (S112))), true)) else (none)) else (none)) else (spec_l26Cross.l2 k3 a0 a1 l2 x8_1 t141 x10_2 (rd l2 ((rd_T112 t141 x10_2).f0)) (rd l2 ((rd_T112 t141 x10_2).f1)) (wrap64 (x13_3 + 1)))) = some (r1, r2) := H
                                        have A21 := Aside0.mk A210
                                        clear A210
                                        by_cases c22 : (t150 != t153) = true
                                        · rw [if_pos c22] at H
                                          have c22b0 : (t150 != t153) = true := c22
                                          (try (have c22b1 : decide (t150 = t153) = false := by simpa using c22))
                                          (try (have c22b2 : (t150 == t153) = false := by simpa using c22))
                                          (try (have c22b3 : ¬ (t150 = t153) := by simpa using c22))
                                          clear c22
                                          by_cases c23 : 0 ≤ x10_2
                                          · rw [if_pos c23] at H
                                            have c23b0 : decide (0 ≤ x10_2) = true := decide_eq_true c23
                                            clear c23
                                            by_cases c24 : x10_2 < (t141.length : Int)
                                            · rw [if_pos c24] at H
                                              have c24b0 : decide (x10_2 < (t141.length : Int)) = true := decide_eq_true c24
                                              clear c24
                                              obtain ⟨y156, hy156⟩ : ∃ y_ : List (S112), y_ = (([(⟨(rd_T112 t141 x10_2).f0, (rd_T112 t141 x10_2).f1⟩ : S112), (⟨(rd_T112 t141 x13_3).f0, (rd_T112 t141 x13_3).f1⟩ : S112)] : List (S112))) := ⟨_, rfl⟩
                                              replace H : (some (y156, true)) = some (r1, r2) := by first | (rw [hy156]; with_reducible exact H) | (have H2_ := (Option.bind_some _ _).symm.trans H; rw [hy156]; with_reducible exact H2_) | (have H2_ := (Option.bind_some _ _).symm.trans H; with_reducible exact H2_) | with_reducible exact H | (rw [hy156]; exact H) | exact H
                                              have Ny156 := Aside0.mk hy156
                                              clear hy156
                                              simp only [Option.some.injEq, Prod.mk.injEq] at H
                                              obtain ⟨rfl, rfl⟩ := H
                                              try go_wp2
                                              replace HO_9 := Aside0.mk (Kd.R_drew HO_9.out)
                                              replace HB := Aside0.mk (below_drew1 HB.out)
                                              have p148 : 0 ≤ (x13_3 : Int) := od
                                              have q148 : x13_3 < (t141.length : Int) := od
                                              obtain ⟨ad148, e148, hx148_0, hx148_1⟩ := at_T112 (Kd.R_reads' HO_9.out).2.2 x13_3 p148 q148
                                              obtain rfl : ad144 = ad148 := (by injection e148)
                                              replace p148 := eq_true p148
                                              replace q148 := eq_true q148
                                              have p149 : 0 ≤ (((rd_T112 t141 x13_3).f0) : Int) := od
                                              have q149 : ((rd_T112 t141 x13_3).f0) < (l2.length : Int) := od
                                              obtain ⟨ad149, e149, hx149_0⟩ := Kd.at_int HR2.out ((rd_T112 t141 x13_3).f0) p149 q149
                                              have hw149_0 := hx149_0
                                              obtain rfl : ad145 = ad149 := (by injection e149)
                                              replace hx149_0 := bc hx149_0
                                              replace p149 := eq_true p149
                                              replace q149 := eq_true q149
                                              have p151 : 0 ≤ (x13_3 : Int) := od
                                              have q151 : x13_3 < (t141.length : Int) := od
                                              obtain ⟨ad151, e151, hx151_0, hx151_1⟩ := at_T112 (Kd.R_reads' HO_9.out).2.2 x13_3 p151 q151
                                              obtain rfl : ad144 = ad151 := (by injection e151)
                                              replace p151 := eq_true p151
                                              replace q151 := eq_true q151
                                              have p152 : 0 ≤ (((rd_T112 t141 x13_3).f1) : Int) := od
                                              have q152 : ((rd_T112 t141 x13_3).f1) < (l2.length : Int) := od
                                              obtain ⟨ad152, e152, hx152_0⟩ := Kd.at_int HR2.out ((rd_T112 t141 x13_3).f1) p152 q152
                                              have hw152_0 := hx152_0
                                              obtain rfl : ad145 = ad152 := (by injection e152)
                                              replace hx152_0 := bc hx152_0
                                              replace p152 := eq_true p152
                                              replace q152 := eq_true q152
                                              refine start_ (n := 23) (S := fun w' => w'.cell? (ad144.add ((x13_3).toNat * 2)) = some (.int .i64 ((rd_T112 t141 x13_3).f0)) ∧ w'.cell? ⟨(ad144.add ((x13_3).toNat * 2)).block, (ad144.add ((x13_3).toNat * 2)).off + 1, none⟩ = some (.int .i64 ((rd_T112 t141 x13_3).f1)) ∧ w'.cell? (ad145.add (((rd_T112 t141 x13_3).f0)).toNat) = some (.int .i64 (rd l2 ((rd_T112 t141 x13_3).f0))) ∧ w'.cell? (ad144.add ((x13_3).toNat * 2)) = some (.int .i64 ((rd_T112 t141 x13_3).f0)) ∧ w'.cell? ⟨(ad144.add ((x13_3).toNat * 2)).block, (ad144.add ((x13_3).toNat * 2)).off + 1, none⟩ = some (.int .i64 ((rd_T112 t141 x13_3).f1)) ∧ w'.cell? (ad145.add (((rd_T112 t141 x13_3).f1)).toNat) = some (.int .i64 (rd l2 ((rd_T112 t141 x13_3).f1)))) (ds := []) #[false, false, false, false, false, false, false, false, false, false, false, false, false, false, false, false, false, false, false, false, false, false, false] (by kernel_rfl) rfl rfl ⟨hx148_0, hx148_1, (bc hw149_0), hx151_0, hx151_1, (bc hw152_0)⟩ (fun hHeld => ?_); refine with_tabW spec_l26Cross.tab13 spec_l26Cross.bits13 (fun HT_ HW_ => ?_)
                                              generalize wr.drew = w25 at HO_9 HB hx148_0 hx148_1 hx149_0 hx151_0 hx151_1 hx152_0 hHeld ⊢
                                              refine pure_ (i := 0) (N := some 52) (v := ?_) (a' := ?_) #[true, false, false, false, false, false, false, false, false, false, false, false, false, false, false, false, false, false, false, false, false, false, false] rfl rfl (any_of HT_.out (by kernel_rfl)) (fun _ _ _ h => h) (Or.inl ⟨by rfl, ?_⟩) ?_ ?_
                                              rotate_left
                                              · intro w'
                                                go_simp
                                                with_reducible rfl
                                              rotate_left
                                              · simp only [Act.put, List.setIfInBounds_toArray, List.set_cons_zero, List.set_cons_succ, i64_w, i32_w]
                                                rfl
                                              refine pure_ (i := 1) (N := some 53) (v := ?_) (a' := ?_) #[true, true, false, false, false, false, false, false, false, false, false, false, false, false, false, false, false, false, false, false, false, false, false] rfl rfl (any_of HT_.out (by kernel_rfl)) (fun _ _ _ h => h) (Or.inl ⟨by rfl, ?_⟩) ?_ ?_
                                              rotate_left
                                              · intro w'
                                                go_simp
                                                with_reducible rfl
                                              rotate_left
                                              · simp only [Act.put, List.setIfInBounds_toArray, List.set_cons_zero, List.set_cons_succ, i64_w, i32_w]
                                                rfl
                                              refine pure_ (i := 2) (N := some 54) (v := ?_) (a' := ?_) #[true, true, true, false, false, false, false, false, false, false, false, false, false, false, false, false, false, false, false, false, false, false, false] rfl rfl (any_of HT_.out (by kernel_rfl)) (fun _ _ _ h => h) (Or.inl ⟨by rfl, ?_⟩) ?_ ?_
                                              rotate_left
                                              · intro w'
                                                go_simp
                                                with_reducible rfl
                                              rotate_left
                                              · simp only [Act.put, List.setIfInBounds_toArray, List.set_cons_zero, List.set_cons_succ, i64_w, i32_w]
                                                rfl
                                              refine pure_ (i := 3) (N := some 55) (v := ?_) (a' := ?_) #[true, true, true, true, false, false, false, false, false, false, false, false, false, false, false, false, false, false, false, false, false, false, false] rfl rfl (any_of HT_.out (by kernel_rfl)) (fun _ _ _ h => h) (Or.inl ⟨by rfl, ?_⟩) ?_ ?_
                                              rotate_left
                                              · intro w'
                                                go_simp
                                                with_reducible rfl
                                              rotate_left
                                              · simp only [Act.put, List.setIfInBounds_toArray, List.set_cons_zero, List.set_cons_succ, i64_w, i32_w]
                                                rfl
                                              refine pure_ (i := 4) (N := some 56) (v := ?_) (a' := ?_) #[true, true, true, true, true, false, false, false, false, false, false, false, false, false, false, false, false, false, false, false, false, false, false] rfl rfl (any_of HT_.out (by kernel_rfl)) (fun _ _ _ h => h) (Or.inl ⟨by rfl, ?_⟩) ?_ ?_
                                              rotate_left
                                              · intro w'
                                                go_simp
                                                with_reducible rfl
                                              rotate_left
                                              · simp only [Act.put, List.setIfInBounds_toArray, List.set_cons_zero, List.set_cons_succ, i64_w, i32_w]
                                                rfl
                                              refine pure_ (i := 8) (N := some 60) (v := ?_) (a' := ?_) #[true, true, true, true, true, false, false, false, true, false, false, false, false, false, false, false, false, false, false, false, false, false, false] rfl rfl (any_of HT_.out (by kernel_rfl)) (fun _ _ _ h => h) (Or.inl ⟨by rfl, ?_⟩) ?_ ?_
                                              rotate_left
                                              · intro w'
                                                go_simp
                                                with_reducible rfl
                                              rotate_left
                                              · simp only [Act.put, List.setIfInBounds_toArray, List.set_cons_zero, List.set_cons_succ, i64_w, i32_w]
                                                rfl
                                              refine pure_ (i := 9) (N := some 61) (v := ?_) (a' := ?_) #[true, true, true, true, true, false, false, false, true, true, false, false, false, false, false, false, false, false, false, false, false, false, false] rfl rfl (any_of HT_.out (by kernel_rfl)) (fun _ _ _ h => h) (Or.inl ⟨by rfl, ?_⟩) ?_ ?_
                                              rotate_left
                                              · intro w'
                                                go_simp
                                                with_reducible rfl
                                              rotate_left
                                              · simp only [Act.put, List.setIfInBounds_toArray, List.set_cons_zero, List.set_cons_succ, i64_w, i32_w]
                                                rfl
                                              refine pure_ (i := 11) (N := some 63) (v := ?_) (a' := ?_) #[true, true, true, true, true, false, false, false, true, true, false, true, false, false, false, false, false, false, false, false, false, false, false] rfl rfl (any_of HT_.out (by kernel_rfl)) (fun _ _ _ h => h) (Or.inl ⟨by rfl, ?_⟩) ?_ ?_
                                              rotate_left
                                              · intro w'
                                                go_simp
                                                with_reducible rfl
                                              rotate_left
                                              · simp only [Act.put, List.setIfInBounds_toArray, List.set_cons_zero, List.set_cons_succ, i64_w, i32_w]
                                                rfl
                                              refine pure_ (i := 12) (N := some 64) (v := ?_) (a' := ?_) #[true, true, true, true, true, false, false, false, true, true, false, true, true, false, false, false, false, false, false, false, false, false, false] rfl rfl (any_of HT_.out (by kernel_rfl)) (fun _ _ _ h => h) (Or.inl ⟨by rfl, ?_⟩) ?_ ?_
                                              rotate_left
                                              · intro w'
                                                go_simp
                                                with_reducible rfl
                                              rotate_left
                                              · simp only [Act.put, List.setIfInBounds_toArray, List.set_cons_zero, List.set_cons_succ, i64_w, i32_w]
                                                rfl
                                              refine pure_ (i := 13) (N := some 65) (v := ?_) (a' := ?_) #[true, true, true, true, true, false, false, false, true, true, false, true, true, true, false, false, false, false, false, false, false, false, false] rfl rfl (any_of HT_.out (by kernel_rfl)) (fun _ _ _ h => h) (Or.inl ⟨by rfl, ?_⟩) ?_ ?_
                                              rotate_left
                                              · intro w'
                                                go_simp
                                                with_reducible rfl
                                              rotate_left
                                              · simp only [Act.put, List.setIfInBounds_toArray, List.set_cons_zero, List.set_cons_succ, i64_w, i32_w]
                                                rfl
                                              refine pure_ (i := 14) (N := some 66) (v := ?_) (a' := ?_) #[true, true, true, true, true, false, false, false, true, true, false, true, true, true, true, false, false, false, false, false, false, false, false] rfl rfl (any_of HT_.out (by kernel_rfl)) (fun _ _ _ h => h) (Or.inl ⟨by rfl, ?_⟩) ?_ ?_
                                              rotate_left
                                              · intro w'
                                                go_simp
                                                with_reducible rfl
                                              rotate_left
                                              · simp only [Act.put, List.setIfInBounds_toArray, List.set_cons_zero, List.set_cons_succ, i64_w, i32_w]
                                                rfl
                                              refine pure_ (i := 15) (N := some 67) (v := ?_) (a' := ?_) #[true, true, true, true, true, false, false, false, true, true, false, true, true, true, true, true, false, false, false, false, false, false, false] rfl rfl (any_of HT_.out (by kernel_rfl)) (fun _ _ _ h => h) (Or.inl ⟨by rfl, ?_⟩) ?_ ?_
                                              rotate_left
                                              · intro w'
                                                go_simp
                                                with_reducible rfl
                                              rotate_left
                                              · simp only [Act.put, List.setIfInBounds_toArray, List.set_cons_zero, List.set_cons_succ, i64_w, i32_w]
                                                rfl
                                              refine pure_ (i := 19) (N := some 71) (v := ?_) (a' := ?_) #[true, true, true, true, true, false, false, false, true, true, false, true, true, true, true, true, false, false, false, true, false, false, false] rfl rfl (any_of HT_.out (by kernel_rfl)) (fun _ _ _ h => h) (Or.inl ⟨by rfl, ?_⟩) ?_ ?_
                                              rotate_left
                                              · intro w'
                                                go_simp
                                                with_reducible rfl
                                              rotate_left
                                              · simp only [Act.put, List.setIfInBounds_toArray, List.set_cons_zero, List.set_cons_succ, i64_w, i32_w]
                                                rfl
                                              refine pure_ (i := 20) (N := some 72) (v := ?_) (a' := ?_) #[true, true, true, true, true, false, false, false, true, true, false, true, true, true, true, true, false, false, false, true, true, false, false] rfl rfl (any_of HT_.out (by kernel_rfl)) (fun _ _ _ h => h) (Or.inl ⟨by rfl, ?_⟩) ?_ ?_
                                              rotate_left
                                              · intro w'
                                                go_simp
                                                with_reducible rfl
                                              rotate_left
                                              · simp only [Act.put, List.setIfInBounds_toArray, List.set_cons_zero, List.set_cons_succ, i64_w, i32_w]
                                                rfl
                                              refine take_ (i := 5) (N := some 57) (v := ?_) (a' := ?_) #[true, true, true, true, true, true, false, false, true, true, false, true, true, true, true, true, false, false, false, true, true, false, false] rfl rfl (take_ofW HT_.out HW_.out (by kernel_rfl)) (fun _ _ _ h => h) (Or.inl ⟨by rfl, ?_⟩) hHeld ?_ ?_
                                              rotate_left
                                              · rintro w' ⟨s0, s1, s2, s3, s4, s5⟩
                                                go_simp
                                                with_reducible rfl
                                              rotate_left
                                              · simp only [Act.put, List.setIfInBounds_toArray, List.set_cons_zero, List.set_cons_succ, i64_w, i32_w]
                                                rfl
                                              refine pure_ (i := 6) (N := some 58) (v := ?_) (a' := ?_) #[true, true, true, true, true, true, true, false, true, true, false, true, true, true, true, true, false, false, false, true, true, false, false] rfl rfl (any_of HT_.out (by kernel_rfl)) (fun _ _ _ h => h) (Or.inl ⟨by rfl, ?_⟩) ?_ ?_
                                              rotate_left
                                              · intro w'
                                                go_simp
                                                with_reducible rfl
                                              rotate_left
                                              · simp only [Act.put, List.setIfInBounds_toArray, List.set_cons_zero, List.set_cons_succ, i64_w, i32_w]
                                                rfl
                                              refine take_ (i := 7) (N := some 59) (v := ?_) (a' := ?_) #[true, true, true, true, true, true, true, true, true, true, false, true, true, true, true, true, false, false, false, true, true, false, false] rfl rfl (take_ofW HT_.out HW_.out (by kernel_rfl)) (fun _ _ _ h => h) (Or.inl ⟨by rfl, ?_⟩) hHeld ?_ ?_
                                              rotate_left
                                              · rintro w' ⟨s0, s1, s2, s3, s4, s5⟩
                                                go_simp
                                                with_reducible rfl
                                              rotate_left
                                              · simp only [Act.put, List.setIfInBounds_toArray, List.set_cons_zero, List.set_cons_succ, i64_w, i32_w]
                                                rfl
                                              refine take_ (i := 16) (N := some 68) (v := ?_) (a' := ?_) #[true, true, true, true, true, true, true, true, true, true, false, true, true, true, true, true, true, false, false, true, true, false, false] rfl rfl (take_ofW HT_.out HW_.out (by kernel_rfl)) (fun _ _ _ h => h) (Or.inl ⟨by rfl, ?_⟩) hHeld ?_ ?_
                                              rotate_left
                                              · rintro w' ⟨s0, s1, s2, s3, s4, s5⟩
                                                go_simp
                                                with_reducible rfl
                                              rotate_left
                                              · simp only [Act.put, List.setIfInBounds_toArray, List.set_cons_zero, List.set_cons_succ, i64_w, i32_w]
                                                rfl
                                              refine pure_ (i := 17) (N := some 69) (v := ?_) (a' := ?_) #[true, true, true, true, true, true, true, true, true, true, false, true, true, true, true, true, true, true, false, true, true, false, false] rfl rfl (any_of HT_.out (by kernel_rfl)) (fun _ _ _ h => h) (Or.inl ⟨by rfl, ?_⟩) ?_ ?_
                                              rotate_left
                                              · intro w'
                                                go_simp
                                                with_reducible rfl
                                              rotate_left
                                              · simp only [Act.put, List.setIfInBounds_toArray, List.set_cons_zero, List.set_cons_succ, i64_w, i32_w]
                                                rfl
                                              refine take_ (i := 18) (N := some 70) (v := ?_) (a' := ?_) #[true, true, true, true, true, true, true, true, true, true, false, true, true, true, true, true, true, true, true, true, true, false, false] rfl rfl (take_ofW HT_.out HW_.out (by kernel_rfl)) (fun _ _ _ h => h) (Or.inl ⟨by rfl, ?_⟩) hHeld ?_ ?_
                                              rotate_left
                                              · rintro w' ⟨s0, s1, s2, s3, s4, s5⟩
                                                go_simp
                                                with_reducible rfl
                                              rotate_left
                                              · simp only [Act.put, List.setIfInBounds_toArray, List.set_cons_zero, List.set_cons_succ, i64_w, i32_w]
                                                rfl
                                              refine one_ (i := 10) (N := some 62) #[true, true, true, true, true, true, true, true, true, true, true, true, true, true, true, true, true, true, true, true, true, false, false] rfl rfl (one_of HT_.out (by kernel_rfl)) (by decide) (fun K hK => ?_)
                                              refine goes_ Try.func146 (by kernel_rfl) rfl #[.int .i64 (rd l2 ((rd_T112 t141 x13_3).f0)), .int .i64 (rd l2 ((rd_T112 t141 x10_2).f0)), .int .i64 (rd l2 ((rd_T112 t141 x10_2).f1))] (by rfl) rfl rfl (by (try simp only [List.map_toArray, List.map_cons, List.map_nil]); first | done | rfl | (simp only [List.length_drop, List.length_take]; rfl)) ?_
                                              with_reducible refine (spec_l25Between.calls (rd l2 ((rd_T112 t141 x13_3).f0)) (rd l2 ((rd_T112 t141 x10_2).f0)) (rd l2 ((rd_T112 t141 x10_2).f1)) t150 _ A18.out).mono ?_
                                              rintro e w' ⟨rfl, ⟨nd, rfl⟩⟩
                                              refine ⟨_, rfl, ?_⟩
                                              refine hK.out _ _ ⟨hHeld.1, hHeld.2.1, (bc hw149_0), hHeld.2.2.2.1, hHeld.2.2.2.2.1, (bc hw152_0)⟩ (fun hHeld => ?_)
                                              clear hK K
                                              refine norm_ (a' := ?_) ?_ ?_
                                              rotate_left
                                              · show Act.put _ (some 62) _ = _
                                                simp only [Act.put, List.setIfInBounds_toArray, List.set_cons_zero, List.set_cons_succ, i64_w, i32_w]
                                                rfl
                                              refine one_ (i := 21) (N := some 73) #[true, true, true, true, true, true, true, true, true, true, true, true, true, true, true, true, true, true, true, true, true, true, false] rfl rfl (one_of HT_.out (by kernel_rfl)) (by decide) (fun K hK => ?_)
                                              refine goes_ Try.func146 (by kernel_rfl) rfl #[.int .i64 (rd l2 ((rd_T112 t141 x13_3).f1)), .int .i64 (rd l2 ((rd_T112 t141 x10_2).f0)), .int .i64 (rd l2 ((rd_T112 t141 x10_2).f1))] (by rfl) rfl rfl (by (try simp only [List.map_toArray, List.map_cons, List.map_nil]); first | done | rfl | (simp only [List.length_drop, List.length_take]; rfl)) ?_
                                              with_reducible refine (spec_l25Between.calls (rd l2 ((rd_T112 t141 x13_3).f1)) (rd l2 ((rd_T112 t141 x10_2).f0)) (rd l2 ((rd_T112 t141 x10_2).f1)) t153 _ A21.out).mono ?_
                                              rintro e w' ⟨rfl, ⟨nd, rfl⟩⟩
                                              refine ⟨_, rfl, ?_⟩
                                              refine hK.out _ _ ⟨hHeld.1, hHeld.2.1, (bc hw149_0), hHeld.2.2.2.1, hHeld.2.2.2.2.1, (bc hw152_0)⟩ (fun hHeld => ?_)
                                              clear hK K
                                              refine norm_ (a' := ?_) ?_ ?_
                                              rotate_left
                                              · show Act.put _ (some 73) _ = _
                                                simp only [Act.put, List.setIfInBounds_toArray, List.set_cons_zero, List.set_cons_succ, i64_w, i32_w]
                                                rfl
                                              refine pure_ (i := 22) (N := some 74) (v := ?_) (a' := ?_) #[true, true, true, true, true, true, true, true, true, true, true, true, true, true, true, true, true, true, true, true, true, true, true] rfl rfl (any_of HT_.out (by kernel_rfl)) (fun _ _ _ h => h) (Or.inl ⟨by rfl, ?_⟩) ?_ ?_
                                              rotate_left
                                              · intro w'
                                                go_simp
                                                with_reducible rfl
                                              rotate_left
                                              · simp only [Act.put, List.setIfInBounds_toArray, List.set_cons_zero, List.set_cons_succ, i64_w, i32_w]
                                                rfl
                                              refine done_ (done_of HT_.out (by kernel_rfl)) ?_
                                              try go_wp2
                                              (try (rw [drewN_self w25]; generalize hq_ : World.drewN w25 _ = w25; have n0_ : Aside0 (Kd.R k112 112 w25 w.heap.size (fun _ => True) (.slice (some ad144) t141.length co13) t141) := ⟨by rw [← hq_]; exact (ra (h := HO_9.out))⟩; have n1_ : Aside0 (Below w.heap.size w w25) := ⟨by rw [← hq_]; exact bw⟩; clear HO_9 HB hq_; have HO_9 := n0_; have HB := n1_; clear n0_ n1_))
                                              replace HO_9 := Aside0.mk (Kd.R_drew HO_9.out)
                                              replace HB := Aside0.mk (below_drew1 HB.out)
                                              have p154 : 0 ≤ (x10_2 : Int) := od
                                              have q154 : x10_2 < (t141.length : Int) := od
                                              obtain ⟨ad154, e154, hx154_0, hx154_1⟩ := at_T112 (Kd.R_reads' HO_9.out).2.2 x10_2 p154 q154
                                              obtain rfl : ad144 = ad154 := (by injection e154)
                                              replace p154 := eq_true p154
                                              replace q154 := eq_true q154
                                              have p155 : 0 ≤ (x13_3 : Int) := od
                                              have q155 : x13_3 < (t141.length : Int) := od
                                              obtain ⟨ad155, e155, hx155_0, hx155_1⟩ := at_T112 (Kd.R_reads' HO_9.out).2.2 x13_3 p155 q155
                                              obtain rfl : ad144 = ad155 := (by injection e155)
                                              replace p155 := eq_true p155
                                              replace q155 := eq_true q155
                                              refine start_ (n := 11) (S := fun w' => w'.cell? (ad144.add ((x10_2).toNat * 2)) = some (.int .i64 ((rd_T112 t141 x10_2).f0)) ∧ w'.cell? ⟨(ad144.add ((x10_2).toNat * 2)).block, (ad144.add ((x10_2).toNat * 2)).off + 1, none⟩ = some (.int .i64 ((rd_T112 t141 x10_2).f1)) ∧ w'.cell? (ad144.add ((x13_3).toNat * 2)) = some (.int .i64 ((rd_T112 t141 x13_3).f0)) ∧ w'.cell? ⟨(ad144.add ((x13_3).toNat * 2)).block, (ad144.add ((x13_3).toNat * 2)).off + 1, none⟩ = some (.int .i64 ((rd_T112 t141 x13_3).f1))) (ds := []) #[false, false, false, false, false, false, false, false, false, false, false] (by kernel_rfl) rfl rfl ⟨hx154_0, hx154_1, hx155_0, hx155_1⟩ (fun hHeld => ?_); refine with_tabW spec_l26Cross.tab14 spec_l26Cross.bits14 (fun HT_ HW_ => ?_)
                                              generalize w25.drew = w26 at HO_9 HB hx154_0 hx154_1 hx155_0 hx155_1 hHeld ⊢
                                              refine pure_ (i := 0) (N := some 75) (v := ?_) (a' := ?_) #[true, false, false, false, false, false, false, false, false, false, false] rfl rfl (any_of HT_.out (by kernel_rfl)) (fun _ _ _ h => h) (Or.inl ⟨by rfl, ?_⟩) ?_ ?_
                                              rotate_left
                                              · intro w'
                                                go_simp
                                                with_reducible rfl
                                              rotate_left
                                              · simp only [Act.put, List.setIfInBounds_toArray, List.set_cons_zero, List.set_cons_succ, i64_w, i32_w]
                                                rfl
                                              refine pure_ (i := 1) (N := some 76) (v := ?_) (a' := ?_) #[true, true, false, false, false, false, false, false, false, false, false] rfl rfl (any_of HT_.out (by kernel_rfl)) (fun _ _ _ h => h) (Or.inl ⟨by rfl, ?_⟩) ?_ ?_
                                              rotate_left
                                              · intro w'
                                                go_simp
                                                with_reducible rfl
                                              rotate_left
                                              · simp only [Act.put, List.setIfInBounds_toArray, List.set_cons_zero, List.set_cons_succ, i64_w, i32_w]
                                                rfl
                                              refine pure_ (i := 2) (N := some 77) (v := ?_) (a' := ?_) #[true, true, true, false, false, false, false, false, false, false, false] rfl rfl (any_of HT_.out (by kernel_rfl)) (fun _ _ _ h => h) (Or.inl ⟨by rfl, ?_⟩) ?_ ?_
                                              rotate_left
                                              · intro w'
                                                go_simp
                                                with_reducible rfl
                                              rotate_left
                                              · simp only [Act.put, List.setIfInBounds_toArray, List.set_cons_zero, List.set_cons_succ, i64_w, i32_w]
                                                rfl
                                              refine pure_ (i := 4) (N := some 79) (v := ?_) (a' := ?_) #[true, true, true, false, true, false, false, false, false, false, false] rfl rfl (any_of HT_.out (by kernel_rfl)) (fun _ _ _ h => h) (Or.inl ⟨by rfl, ?_⟩) ?_ ?_
                                              rotate_left
                                              · intro w'
                                                go_simp
                                                with_reducible rfl
                                              rotate_left
                                              · simp only [Act.put, List.setIfInBounds_toArray, List.set_cons_zero, List.set_cons_succ, i64_w, i32_w]
                                                rfl
                                              refine pure_ (i := 5) (N := some 80) (v := ?_) (a' := ?_) #[true, true, true, false, true, true, false, false, false, false, false] rfl rfl (any_of HT_.out (by kernel_rfl)) (fun _ _ _ h => h) (Or.inl ⟨by rfl, ?_⟩) ?_ ?_
                                              rotate_left
                                              · intro w'
                                                go_simp
                                                with_reducible rfl
                                              rotate_left
                                              · simp only [Act.put, List.setIfInBounds_toArray, List.set_cons_zero, List.set_cons_succ, i64_w, i32_w]
                                                rfl
                                              refine pure_ (i := 6) (N := some 81) (v := ?_) (a' := ?_) #[true, true, true, false, true, true, true, false, false, false, false] rfl rfl (any_of HT_.out (by kernel_rfl)) (fun _ _ _ h => h) (Or.inl ⟨by rfl, ?_⟩) ?_ ?_
                                              rotate_left
                                              · intro w'
                                                go_simp
                                                with_reducible rfl
                                              rotate_left
                                              · simp only [Act.put, List.setIfInBounds_toArray, List.set_cons_zero, List.set_cons_succ, i64_w, i32_w]
                                                rfl
                                              refine take_ (i := 3) (N := some 78) (v := ?_) (a' := ?_) #[true, true, true, true, true, true, true, false, false, false, false] rfl rfl (take_ofW HT_.out HW_.out (by kernel_rfl)) (fun _ _ _ h => h) (Or.inl ⟨by rfl, ?_⟩) hHeld ?_ ?_
                                              rotate_left
                                              · rintro w' ⟨s0, s1, s2, s3⟩
                                                go_simp
                                                with_reducible rfl
                                              rotate_left
                                              · simp only [Act.put, List.setIfInBounds_toArray, List.set_cons_zero, List.set_cons_succ, i64_w, i32_w]
                                                rfl
                                              refine take_ (i := 7) (N := some 82) (v := ?_) (a' := ?_) #[true, true, true, true, true, true, true, true, false, false, false] rfl rfl (take_ofW HT_.out HW_.out (by kernel_rfl)) (fun _ _ _ h => h) (Or.inl ⟨by rfl, ?_⟩) hHeld ?_ ?_
                                              rotate_left
                                              · rintro w' ⟨s0, s1, s2, s3⟩
                                                go_simp
                                                with_reducible rfl
                                              rotate_left
                                              · simp only [Act.put, List.setIfInBounds_toArray, List.set_cons_zero, List.set_cons_succ, i64_w, i32_w]
                                                rfl
                                              refine one_ (i := 8) (N := some 83) #[true, true, true, true, true, true, true, true, true, false, false] rfl rfl (one_of HT_.out (by kernel_rfl)) (by decide) (fun K hK => ?_)
                                              refine Kd.R_lit_step k112 _ 112 ?hg (N := 83) ?hd (xs := ([(⟨(rd_T112 t141 x10_2).f0, (rd_T112 t141 x10_2).f1⟩ : S112), (⟨(rd_T112 t141 x13_3).f0, (rd_T112 t141 x13_3).f1⟩ : S112)] : List (S112))) (inner := [.int .i64 ((rd_T112 t141 x10_2).f0), .int .i64 ((rd_T112 t141 x10_2).f1), .int .i64 ((rd_T112 t141 x13_3).f0), .int .i64 ((rd_T112 t141 x13_3).f1)]) (ok := fun _ => True) (okp := fun _ => True) ?hr ?hp (fun _ hk => hk) trivial (Below.refl _ _) (Nat.le_refl _) (by simp) ?_; (case hd => rfl); (case hg => rfl); (case hr => first | (go_simp; done) | (go_simp; rfl)); (case hp => exact (Reps.c2 (show Kd.M k112 _ _ _ (⟨(rd_T112 t141 x10_2).f0, (rd_T112 t141 x10_2).f1⟩ : S112) [.int .i64 ((rd_T112 t141 x10_2).f0), .int .i64 ((rd_T112 t141 x10_2).f1)] from (k112_mkM _ _ _ (⟨(rd_T112 t141 x10_2).f0, (rd_T112 t141 x10_2).f1⟩ : S112) )) (Reps.c2 (show Kd.M k112 _ _ _ (⟨(rd_T112 t141 x13_3).f0, (rd_T112 t141 x13_3).f1⟩ : S112) [.int .i64 ((rd_T112 t141 x13_3).f0), .int .i64 ((rd_T112 t141 x13_3).f1)] from (k112_mkM _ _ _ (⟨(rd_T112 t141 x13_3).f0, (rd_T112 t141 x13_3).f1⟩ : S112) )) (Reps.none _ _))))
                                              intro v157 w27 ho28 hb hg_ hnew_
                                              have HS0_ := (hb.cell (World.block_lt_of_cell? _ _ (hHeld.1))).trans (hHeld.1)
                                              have HS1_ := (hb.cell (World.block_lt_of_cell? _ _ (hHeld.2.1))).trans (hHeld.2.1)
                                              have HS2_ := (hb.cell (World.block_lt_of_cell? _ _ (hHeld.2.2.1))).trans (hHeld.2.2.1)
                                              have HS3_ := (hb.cell (World.block_lt_of_cell? _ _ (hHeld.2.2.2))).trans (hHeld.2.2.2)
                                              clear hg_ hnew_
                                              (first | rw [← Ny156.out] at ho28 | (simp only [Int.reduceToNat] at ho28; rw [← Ny156.out] at ho28))
                                              have HO158 := Aside0.mk (Kd.R_lower (Kd.R_new' ho28 (Kd.R_lt (ra (h := HO_9.out)))) (below_size bw))
                                              replace HO_9 := Aside0.mk (Kd.R_elder' (ra (h := HO_9.out)) (Kd.R_base ho28) hb)
                                              replace HB := bs hb
                                              clear hb ho28
                                              refine hK.out _ _ ⟨HS0_, HS1_, HS2_, HS3_⟩ (fun hHeld => ?_)
                                              clear hK K
                                              refine norm_ (a' := ?_) ?_ ?_
                                              rotate_left
                                              · show Act.put _ (some 83) _ = _
                                                simp only [Act.put, List.setIfInBounds_toArray, List.set_cons_zero, List.set_cons_succ, i64_w, i32_w]
                                                rfl
                                              refine pure_ (i := 9) (N := some 6) (v := ?_) (a' := ?_) #[true, true, true, true, true, true, true, true, true, true, false] rfl rfl (any_of HT_.out (by kernel_rfl)) (fun _ _ _ h => h) (Or.inl ⟨by rfl, ?_⟩) ?_ ?_
                                              rotate_left
                                              · intro w'
                                                go_simp
                                                with_reducible rfl
                                              rotate_left
                                              · simp only [Act.put, List.setIfInBounds_toArray, List.set_cons_zero, List.set_cons_succ, i64_w, i32_w]
                                                rfl
                                              refine pure_ (i := 10) (N := some 7) (v := ?_) (a' := ?_) #[true, true, true, true, true, true, true, true, true, true, true] rfl rfl (any_of HT_.out (by kernel_rfl)) (fun _ _ _ h => h) (Or.inl ⟨by rfl, ?_⟩) ?_ ?_
                                              rotate_left
                                              · intro w'
                                                go_simp
                                                with_reducible rfl
                                              rotate_left
                                              · simp only [Act.put, List.setIfInBounds_toArray, List.set_cons_zero, List.set_cons_succ, i64_w, i32_w]
                                                rfl
                                              refine done_ (done_of HT_.out (by kernel_rfl)) ?_
                                              try go_wp2
                                              go_ret2
                                              exact ⟨_, er, by refine ra (h := ?_); exact Kd.R_mono HO158.out (fun _ hk => trivial), bw⟩
                                            · rw [if_neg c24] at H
                                              exact absurd H (by simp)
                                          · rw [if_neg c23] at H
                                            exact absurd H (by simp)
                                        · rw [if_neg c22] at H
                                          have c22b0 : (t150 != t153) = false := by simpa using c22
                                          (try (have c22b1 : decide (t150 = t153) = true := by simpa using c22))
                                          (try (have c22b2 : (t150 == t153) = true := by simpa using c22))
                                          clear c22
                                          have H' := Aside0.mk H
                                          clear H
                                          try go_wp2
                                          replace HO_9 := Aside0.mk (Kd.R_drew HO_9.out)
                                          replace HB := Aside0.mk (below_drew1 HB.out)
                                          have p148 : 0 ≤ (x13_3 : Int) := od
                                          have q148 : x13_3 < (t141.length : Int) := od
                                          obtain ⟨ad148, e148, hx148_0, hx148_1⟩ := at_T112 (Kd.R_reads' HO_9.out).2.2 x13_3 p148 q148
                                          obtain rfl : ad144 = ad148 := (by injection e148)
                                          replace p148 := eq_true p148
                                          replace q148 := eq_true q148
                                          have p149 : 0 ≤ (((rd_T112 t141 x13_3).f0) : Int) := od
                                          have q149 : ((rd_T112 t141 x13_3).f0) < (l2.length : Int) := od
                                          obtain ⟨ad149, e149, hx149_0⟩ := Kd.at_int HR2.out ((rd_T112 t141 x13_3).f0) p149 q149
                                          have hw149_0 := hx149_0
                                          obtain rfl : ad145 = ad149 := (by injection e149)
                                          replace hx149_0 := bc hx149_0
                                          replace p149 := eq_true p149
                                          replace q149 := eq_true q149
                                          have p151 : 0 ≤ (x13_3 : Int) := od
                                          have q151 : x13_3 < (t141.length : Int) := od
                                          obtain ⟨ad151, e151, hx151_0, hx151_1⟩ := at_T112 (Kd.R_reads' HO_9.out).2.2 x13_3 p151 q151
                                          obtain rfl : ad144 = ad151 := (by injection e151)
                                          replace p151 := eq_true p151
                                          replace q151 := eq_true q151
                                          have p152 : 0 ≤ (((rd_T112 t141 x13_3).f1) : Int) := od
                                          have q152 : ((rd_T112 t141 x13_3).f1) < (l2.length : Int) := od
                                          obtain ⟨ad152, e152, hx152_0⟩ := Kd.at_int HR2.out ((rd_T112 t141 x13_3).f1) p152 q152
                                          have hw152_0 := hx152_0
                                          obtain rfl : ad145 = ad152 := (by injection e152)
                                          replace hx152_0 := bc hx152_0
                                          replace p152 := eq_true p152
                                          replace q152 := eq_true q152
                                          refine start_ (n := 23) (S := fun w' => w'.cell? (ad144.add ((x13_3).toNat * 2)) = some (.int .i64 ((rd_T112 t141 x13_3).f0)) ∧ w'.cell? ⟨(ad144.add ((x13_3).toNat * 2)).block, (ad144.add ((x13_3).toNat * 2)).off + 1, none⟩ = some (.int .i64 ((rd_T112 t141 x13_3).f1)) ∧ w'.cell? (ad145.add (((rd_T112 t141 x13_3).f0)).toNat) = some (.int .i64 (rd l2 ((rd_T112 t141 x13_3).f0))) ∧ w'.cell? (ad144.add ((x13_3).toNat * 2)) = some (.int .i64 ((rd_T112 t141 x13_3).f0)) ∧ w'.cell? ⟨(ad144.add ((x13_3).toNat * 2)).block, (ad144.add ((x13_3).toNat * 2)).off + 1, none⟩ = some (.int .i64 ((rd_T112 t141 x13_3).f1)) ∧ w'.cell? (ad145.add (((rd_T112 t141 x13_3).f1)).toNat) = some (.int .i64 (rd l2 ((rd_T112 t141 x13_3).f1)))) (ds := []) #[false, false, false, false, false, false, false, false, false, false, false, false, false, false, false, false, false, false, false, false, false, false, false] (by kernel_rfl) rfl rfl ⟨hx148_0, hx148_1, (bc hw149_0), hx151_0, hx151_1, (bc hw152_0)⟩ (fun hHeld => ?_); refine with_tabW spec_l26Cross.tab13 spec_l26Cross.bits13 (fun HT_ HW_ => ?_)
                                          generalize wr.drew = w29 at HO_9 HB hx148_0 hx148_1 hx149_0 hx151_0 hx151_1 hx152_0 hHeld ⊢
                                          refine pure_ (i := 0) (N := some 52) (v := ?_) (a' := ?_) #[true, false, false, false, false, false, false, false, false, false, false, false, false, false, false, false, false, false, false, false, false, false, false] rfl rfl (any_of HT_.out (by kernel_rfl)) (fun _ _ _ h => h) (Or.inl ⟨by rfl, ?_⟩) ?_ ?_
                                          rotate_left
                                          · intro w'
                                            go_simp
                                            with_reducible rfl
                                          rotate_left
                                          · simp only [Act.put, List.setIfInBounds_toArray, List.set_cons_zero, List.set_cons_succ, i64_w, i32_w]
                                            rfl
                                          refine pure_ (i := 1) (N := some 53) (v := ?_) (a' := ?_) #[true, true, false, false, false, false, false, false, false, false, false, false, false, false, false, false, false, false, false, false, false, false, false] rfl rfl (any_of HT_.out (by kernel_rfl)) (fun _ _ _ h => h) (Or.inl ⟨by rfl, ?_⟩) ?_ ?_
                                          rotate_left
                                          · intro w'
                                            go_simp
                                            with_reducible rfl
                                          rotate_left
                                          · simp only [Act.put, List.setIfInBounds_toArray, List.set_cons_zero, List.set_cons_succ, i64_w, i32_w]
                                            rfl
                                          refine pure_ (i := 2) (N := some 54) (v := ?_) (a' := ?_) #[true, true, true, false, false, false, false, false, false, false, false, false, false, false, false, false, false, false, false, false, false, false, false] rfl rfl (any_of HT_.out (by kernel_rfl)) (fun _ _ _ h => h) (Or.inl ⟨by rfl, ?_⟩) ?_ ?_
                                          rotate_left
                                          · intro w'
                                            go_simp
                                            with_reducible rfl
                                          rotate_left
                                          · simp only [Act.put, List.setIfInBounds_toArray, List.set_cons_zero, List.set_cons_succ, i64_w, i32_w]
                                            rfl
                                          refine pure_ (i := 3) (N := some 55) (v := ?_) (a' := ?_) #[true, true, true, true, false, false, false, false, false, false, false, false, false, false, false, false, false, false, false, false, false, false, false] rfl rfl (any_of HT_.out (by kernel_rfl)) (fun _ _ _ h => h) (Or.inl ⟨by rfl, ?_⟩) ?_ ?_
                                          rotate_left
                                          · intro w'
                                            go_simp
                                            with_reducible rfl
                                          rotate_left
                                          · simp only [Act.put, List.setIfInBounds_toArray, List.set_cons_zero, List.set_cons_succ, i64_w, i32_w]
                                            rfl
                                          refine pure_ (i := 4) (N := some 56) (v := ?_) (a' := ?_) #[true, true, true, true, true, false, false, false, false, false, false, false, false, false, false, false, false, false, false, false, false, false, false] rfl rfl (any_of HT_.out (by kernel_rfl)) (fun _ _ _ h => h) (Or.inl ⟨by rfl, ?_⟩) ?_ ?_
                                          rotate_left
                                          · intro w'
                                            go_simp
                                            with_reducible rfl
                                          rotate_left
                                          · simp only [Act.put, List.setIfInBounds_toArray, List.set_cons_zero, List.set_cons_succ, i64_w, i32_w]
                                            rfl
                                          refine pure_ (i := 8) (N := some 60) (v := ?_) (a' := ?_) #[true, true, true, true, true, false, false, false, true, false, false, false, false, false, false, false, false, false, false, false, false, false, false] rfl rfl (any_of HT_.out (by kernel_rfl)) (fun _ _ _ h => h) (Or.inl ⟨by rfl, ?_⟩) ?_ ?_
                                          rotate_left
                                          · intro w'
                                            go_simp
                                            with_reducible rfl
                                          rotate_left
                                          · simp only [Act.put, List.setIfInBounds_toArray, List.set_cons_zero, List.set_cons_succ, i64_w, i32_w]
                                            rfl
                                          refine pure_ (i := 9) (N := some 61) (v := ?_) (a' := ?_) #[true, true, true, true, true, false, false, false, true, true, false, false, false, false, false, false, false, false, false, false, false, false, false] rfl rfl (any_of HT_.out (by kernel_rfl)) (fun _ _ _ h => h) (Or.inl ⟨by rfl, ?_⟩) ?_ ?_
                                          rotate_left
                                          · intro w'
                                            go_simp
                                            with_reducible rfl
                                          rotate_left
                                          · simp only [Act.put, List.setIfInBounds_toArray, List.set_cons_zero, List.set_cons_succ, i64_w, i32_w]
                                            rfl
                                          refine pure_ (i := 11) (N := some 63) (v := ?_) (a' := ?_) #[true, true, true, true, true, false, false, false, true, true, false, true, false, false, false, false, false, false, false, false, false, false, false] rfl rfl (any_of HT_.out (by kernel_rfl)) (fun _ _ _ h => h) (Or.inl ⟨by rfl, ?_⟩) ?_ ?_
                                          rotate_left
                                          · intro w'
                                            go_simp
                                            with_reducible rfl
                                          rotate_left
                                          · simp only [Act.put, List.setIfInBounds_toArray, List.set_cons_zero, List.set_cons_succ, i64_w, i32_w]
                                            rfl
                                          refine pure_ (i := 12) (N := some 64) (v := ?_) (a' := ?_) #[true, true, true, true, true, false, false, false, true, true, false, true, true, false, false, false, false, false, false, false, false, false, false] rfl rfl (any_of HT_.out (by kernel_rfl)) (fun _ _ _ h => h) (Or.inl ⟨by rfl, ?_⟩) ?_ ?_
                                          rotate_left
                                          · intro w'
                                            go_simp
                                            with_reducible rfl
                                          rotate_left
                                          · simp only [Act.put, List.setIfInBounds_toArray, List.set_cons_zero, List.set_cons_succ, i64_w, i32_w]
                                            rfl
                                          refine pure_ (i := 13) (N := some 65) (v := ?_) (a' := ?_) #[true, true, true, true, true, false, false, false, true, true, false, true, true, true, false, false, false, false, false, false, false, false, false] rfl rfl (any_of HT_.out (by kernel_rfl)) (fun _ _ _ h => h) (Or.inl ⟨by rfl, ?_⟩) ?_ ?_
                                          rotate_left
                                          · intro w'
                                            go_simp
                                            with_reducible rfl
                                          rotate_left
                                          · simp only [Act.put, List.setIfInBounds_toArray, List.set_cons_zero, List.set_cons_succ, i64_w, i32_w]
                                            rfl
                                          refine pure_ (i := 14) (N := some 66) (v := ?_) (a' := ?_) #[true, true, true, true, true, false, false, false, true, true, false, true, true, true, true, false, false, false, false, false, false, false, false] rfl rfl (any_of HT_.out (by kernel_rfl)) (fun _ _ _ h => h) (Or.inl ⟨by rfl, ?_⟩) ?_ ?_
                                          rotate_left
                                          · intro w'
                                            go_simp
                                            with_reducible rfl
                                          rotate_left
                                          · simp only [Act.put, List.setIfInBounds_toArray, List.set_cons_zero, List.set_cons_succ, i64_w, i32_w]
                                            rfl
                                          refine pure_ (i := 15) (N := some 67) (v := ?_) (a' := ?_) #[true, true, true, true, true, false, false, false, true, true, false, true, true, true, true, true, false, false, false, false, false, false, false] rfl rfl (any_of HT_.out (by kernel_rfl)) (fun _ _ _ h => h) (Or.inl ⟨by rfl, ?_⟩) ?_ ?_
                                          rotate_left
                                          · intro w'
                                            go_simp
                                            with_reducible rfl
                                          rotate_left
                                          · simp only [Act.put, List.setIfInBounds_toArray, List.set_cons_zero, List.set_cons_succ, i64_w, i32_w]
                                            rfl
                                          refine pure_ (i := 19) (N := some 71) (v := ?_) (a' := ?_) #[true, true, true, true, true, false, false, false, true, true, false, true, true, true, true, true, false, false, false, true, false, false, false] rfl rfl (any_of HT_.out (by kernel_rfl)) (fun _ _ _ h => h) (Or.inl ⟨by rfl, ?_⟩) ?_ ?_
                                          rotate_left
                                          · intro w'
                                            go_simp
                                            with_reducible rfl
                                          rotate_left
                                          · simp only [Act.put, List.setIfInBounds_toArray, List.set_cons_zero, List.set_cons_succ, i64_w, i32_w]
                                            rfl
                                          refine pure_ (i := 20) (N := some 72) (v := ?_) (a' := ?_) #[true, true, true, true, true, false, false, false, true, true, false, true, true, true, true, true, false, false, false, true, true, false, false] rfl rfl (any_of HT_.out (by kernel_rfl)) (fun _ _ _ h => h) (Or.inl ⟨by rfl, ?_⟩) ?_ ?_
                                          rotate_left
                                          · intro w'
                                            go_simp
                                            with_reducible rfl
                                          rotate_left
                                          · simp only [Act.put, List.setIfInBounds_toArray, List.set_cons_zero, List.set_cons_succ, i64_w, i32_w]
                                            rfl
                                          refine take_ (i := 5) (N := some 57) (v := ?_) (a' := ?_) #[true, true, true, true, true, true, false, false, true, true, false, true, true, true, true, true, false, false, false, true, true, false, false] rfl rfl (take_ofW HT_.out HW_.out (by kernel_rfl)) (fun _ _ _ h => h) (Or.inl ⟨by rfl, ?_⟩) hHeld ?_ ?_
                                          rotate_left
                                          · rintro w' ⟨s0, s1, s2, s3, s4, s5⟩
                                            go_simp
                                            with_reducible rfl
                                          rotate_left
                                          · simp only [Act.put, List.setIfInBounds_toArray, List.set_cons_zero, List.set_cons_succ, i64_w, i32_w]
                                            rfl
                                          refine pure_ (i := 6) (N := some 58) (v := ?_) (a' := ?_) #[true, true, true, true, true, true, true, false, true, true, false, true, true, true, true, true, false, false, false, true, true, false, false] rfl rfl (any_of HT_.out (by kernel_rfl)) (fun _ _ _ h => h) (Or.inl ⟨by rfl, ?_⟩) ?_ ?_
                                          rotate_left
                                          · intro w'
                                            go_simp
                                            with_reducible rfl
                                          rotate_left
                                          · simp only [Act.put, List.setIfInBounds_toArray, List.set_cons_zero, List.set_cons_succ, i64_w, i32_w]
                                            rfl
                                          refine take_ (i := 7) (N := some 59) (v := ?_) (a' := ?_) #[true, true, true, true, true, true, true, true, true, true, false, true, true, true, true, true, false, false, false, true, true, false, false] rfl rfl (take_ofW HT_.out HW_.out (by kernel_rfl)) (fun _ _ _ h => h) (Or.inl ⟨by rfl, ?_⟩) hHeld ?_ ?_
                                          rotate_left
                                          · rintro w' ⟨s0, s1, s2, s3, s4, s5⟩
                                            go_simp
                                            with_reducible rfl
                                          rotate_left
                                          · simp only [Act.put, List.setIfInBounds_toArray, List.set_cons_zero, List.set_cons_succ, i64_w, i32_w]
                                            rfl
                                          refine take_ (i := 16) (N := some 68) (v := ?_) (a' := ?_) #[true, true, true, true, true, true, true, true, true, true, false, true, true, true, true, true, true, false, false, true, true, false, false] rfl rfl (take_ofW HT_.out HW_.out (by kernel_rfl)) (fun _ _ _ h => h) (Or.inl ⟨by rfl, ?_⟩) hHeld ?_ ?_
                                          rotate_left
                                          · rintro w' ⟨s0, s1, s2, s3, s4, s5⟩
                                            go_simp
                                            with_reducible rfl
                                          rotate_left
                                          · simp only [Act.put, List.setIfInBounds_toArray, List.set_cons_zero, List.set_cons_succ, i64_w, i32_w]
                                            rfl
                                          refine pure_ (i := 17) (N := some 69) (v := ?_) (a' := ?_) #[true, true, true, true, true, true, true, true, true, true, false, true, true, true, true, true, true, true, false, true, true, false, false] rfl rfl (any_of HT_.out (by kernel_rfl)) (fun _ _ _ h => h) (Or.inl ⟨by rfl, ?_⟩) ?_ ?_
                                          rotate_left
                                          · intro w'
                                            go_simp
                                            with_reducible rfl
                                          rotate_left
                                          · simp only [Act.put, List.setIfInBounds_toArray, List.set_cons_zero, List.set_cons_succ, i64_w, i32_w]
                                            rfl
                                          refine take_ (i := 18) (N := some 70) (v := ?_) (a' := ?_) #[true, true, true, true, true, true, true, true, true, true, false, true, true, true, true, true, true, true, true, true, true, false, false] rfl rfl (take_ofW HT_.out HW_.out (by kernel_rfl)) (fun _ _ _ h => h) (Or.inl ⟨by rfl, ?_⟩) hHeld ?_ ?_
                                          rotate_left
                                          · rintro w' ⟨s0, s1, s2, s3, s4, s5⟩
                                            go_simp
                                            with_reducible rfl
                                          rotate_left
                                          · simp only [Act.put, List.setIfInBounds_toArray, List.set_cons_zero, List.set_cons_succ, i64_w, i32_w]
                                            rfl
                                          refine one_ (i := 10) (N := some 62) #[true, true, true, true, true, true, true, true, true, true, true, true, true, true, true, true, true, true, true, true, true, false, false] rfl rfl (one_of HT_.out (by kernel_rfl)) (by decide) (fun K hK => ?_)
                                          refine goes_ Try.func146 (by kernel_rfl) rfl #[.int .i64 (rd l2 ((rd_T112 t141 x13_3).f0)), .int .i64 (rd l2 ((rd_T112 t141 x10_2).f0)), .int .i64 (rd l2 ((rd_T112 t141 x10_2).f1))] (by rfl) rfl rfl (by (try simp only [List.map_toArray, List.map_cons, List.map_nil]); first | done | rfl | (simp only [List.length_drop, List.length_take]; rfl)) ?_
                                          with_reducible refine (spec_l25Between.calls (rd l2 ((rd_T112 t141 x13_3).f0)) (rd l2 ((rd_T112 t141 x10_2).f0)) (rd l2 ((rd_T112 t141 x10_2).f1)) t150 _ A18.out).mono ?_
                                          rintro e w' ⟨rfl, ⟨nd, rfl⟩⟩
                                          refine ⟨_, rfl, ?_⟩
                                          refine hK.out _ _ ⟨hHeld.1, hHeld.2.1, (bc hw149_0), hHeld.2.2.2.1, hHeld.2.2.2.2.1, (bc hw152_0)⟩ (fun hHeld => ?_)
                                          clear hK K
                                          refine norm_ (a' := ?_) ?_ ?_
                                          rotate_left
                                          · show Act.put _ (some 62) _ = _
                                            simp only [Act.put, List.setIfInBounds_toArray, List.set_cons_zero, List.set_cons_succ, i64_w, i32_w]
                                            rfl
                                          refine one_ (i := 21) (N := some 73) #[true, true, true, true, true, true, true, true, true, true, true, true, true, true, true, true, true, true, true, true, true, true, false] rfl rfl (one_of HT_.out (by kernel_rfl)) (by decide) (fun K hK => ?_)
                                          refine goes_ Try.func146 (by kernel_rfl) rfl #[.int .i64 (rd l2 ((rd_T112 t141 x13_3).f1)), .int .i64 (rd l2 ((rd_T112 t141 x10_2).f0)), .int .i64 (rd l2 ((rd_T112 t141 x10_2).f1))] (by rfl) rfl rfl (by (try simp only [List.map_toArray, List.map_cons, List.map_nil]); first | done | rfl | (simp only [List.length_drop, List.length_take]; rfl)) ?_
                                          with_reducible refine (spec_l25Between.calls (rd l2 ((rd_T112 t141 x13_3).f1)) (rd l2 ((rd_T112 t141 x10_2).f0)) (rd l2 ((rd_T112 t141 x10_2).f1)) t153 _ A21.out).mono ?_
                                          rintro e w' ⟨rfl, ⟨nd, rfl⟩⟩
                                          refine ⟨_, rfl, ?_⟩
                                          refine hK.out _ _ ⟨hHeld.1, hHeld.2.1, (bc hw149_0), hHeld.2.2.2.1, hHeld.2.2.2.2.1, (bc hw152_0)⟩ (fun hHeld => ?_)
                                          clear hK K
                                          refine norm_ (a' := ?_) ?_ ?_
                                          rotate_left
                                          · show Act.put _ (some 73) _ = _
                                            simp only [Act.put, List.setIfInBounds_toArray, List.set_cons_zero, List.set_cons_succ, i64_w, i32_w]
                                            rfl
                                          refine pure_ (i := 22) (N := some 74) (v := ?_) (a' := ?_) #[true, true, true, true, true, true, true, true, true, true, true, true, true, true, true, true, true, true, true, true, true, true, true] rfl rfl (any_of HT_.out (by kernel_rfl)) (fun _ _ _ h => h) (Or.inl ⟨by rfl, ?_⟩) ?_ ?_
                                          rotate_left
                                          · intro w'
                                            go_simp
                                            with_reducible rfl
                                          rotate_left
                                          · simp only [Act.put, List.setIfInBounds_toArray, List.set_cons_zero, List.set_cons_succ, i64_w, i32_w]
                                            rfl
                                          refine done_ (done_of HT_.out (by kernel_rfl)) ?_
                                          try go_wp2
                                          go_roundg k3
                                          case measure => have := HK1.out; have := HK2.out; have := HK3.out; omega
                                          case rel => exact ⟨(wrap64 (x13_3 + 1)), (by first | rfl | (simp; done) | (simp [*]; done)), H', ⟨by have := HK1.out; have := HK2.out; have := HK3.out; omega⟩, ⟨by refine ra (h := ?_); exact HO_9.out⟩, ⟨bw⟩⟩
                                      · rw [if_neg c20] at H
                                        exact absurd H (by simp)
                                    · rw [if_neg c19] at H
                                      exact absurd H (by simp)
                                  · rw [if_neg c17] at H
                                    exact absurd H (by simp)
                                · rw [if_neg c16] at H
                                  exact absurd H (by simp)
                              · rw [if_neg c15] at H
                                exact absurd H (by simp)
                            · rw [if_neg c14] at H
                              have c14b0 : decide (x13_3 < (t141.length : Int)) = false := decide_eq_false c14
                              clear c14
                              have H' := Aside0.mk H
                              clear H
                              go_wp2
                              go_roundg k3
                              case measure => have := HK1.out; have := HK2.out; have := HK3.out; omega
                              case rel => exact ⟨(wrap64 (x10_2 + 1)), (by first | rfl | (simp; done) | (simp [*]; done)), H', ⟨by have := HK1.out; have := HK2.out; have := HK3.out; omega⟩, ⟨by refine ra (h := ?_); exact HO_9.out⟩, ⟨bw⟩⟩
                      · rw [if_neg c12] at H
                        exact absurd H (by simp)
                    · rw [if_neg c11] at H
                      exact absurd H (by simp)
                  · rw [if_neg c10] at H
                    exact absurd H (by simp)
                · rw [if_neg c9] at H
                  exact absurd H (by simp)
              · rw [if_neg c8] at H
                exact absurd H (by simp)
            · rw [if_neg c7] at H
              have c7b0 : decide (x10_2 < (t141.length : Int)) = false := decide_eq_false c7
              clear c7
              have H' := Aside0.mk H
              clear H
              obtain ⟨Ao30, co30, eo30⟩ := Kd.R_slice HO_9.out
              subst eo30
              go_wp2
              go_roundg k2
              case measure => have := HK1.out; have := HK2.out; omega
              case rel => exact ⟨(wrap64 (x8_1 + 1)), (by first | rfl | (simp; done) | (simp [*]; done)), H', ⟨by have := HK1.out; have := HK2.out; omega⟩, ⟨bw⟩⟩
      · rw [if_neg c4] at H
        have c4b0 : decide (x8_1 ≤ 4) = false := decide_eq_false c4
        clear c4
        obtain ⟨y138, hy138⟩ : ∃ y_ : List (S112), y_ = (([] : List (S112))) := ⟨_, rfl⟩
        replace H : (some (y138, false)) = some (r1, r2) := by first | (rw [hy138]; with_reducible exact H) | (have H2_ := (Option.bind_some _ _).symm.trans H; rw [hy138]; with_reducible exact H2_) | (have H2_ := (Option.bind_some _ _).symm.trans H; with_reducible exact H2_) | with_reducible exact H | (rw [hy138]; exact H) | exact H
        have Ny138 := Aside0.mk hy138
        clear hy138
        simp only [Option.some.injEq, Prod.mk.injEq] at H
        obtain ⟨rfl, rfl⟩ := H
        go_wp2_with (first | ((with_reducible refine gate_dst (N := 84) rfl ?_); refine Kd.R_lit k112 _ 112 ?hg (N := 84) ?hd (xs := ([] : List (S112))) (inner := []) (ok := fun _ => True) (okp := fun _ => True) ?hr ?hp (fun _ hk => hk) trivial (Below.refl _ _) (Nat.le_refl _) (by simp) ?_; (case hd => rfl); (case hg => rfl); (case hr => first | (go_simp; done) | (go_simp; rfl)); (case hp => exact (Reps.none _ _)); intro v139 w31 ho32 hb hg_ hnew_; clear hg_ hnew_; (first | rw [← Ny138.out] at ho32 | (simp only [Int.reduceToNat] at ho32; rw [← Ny138.out] at ho32)); have HO140 := Aside0.mk (Kd.R_lower ho32 (below_size bw)); replace HB := bs hb; clear hb ho32))
        go_ret2
        exact ⟨_, er, by refine ra (h := ?_); exact HO140.out, bw⟩

end Go.Proofs.Yteadienaeapaeaa.PK
