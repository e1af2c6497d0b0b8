-- Made by a program of this session (myprint.py) out of the translation.
import Derived.Test.YteadienaeapaeaaDoorPWx0
import Derived.Test.YteadienaeapaeaaDoorPWx3
import Derived.Test.YteadienaeapaeaaDoorPWx4
import Derived.Test.YteadienaeapaeaaDoorPWx7
import Derived.Test.YteadienaeapaeaaDoorPWx16
import Derived.Test.YteadienaeapaeaaDoorShort
namespace Go.Proofs.YteadienaeapaeaaDoor.PW
open Go.Proofs.YteadienaeapaeaaDoor.Short
open Go.Proofs.YteadienaeapaeaaDoor.Dyn
open Go.RowKit Go.Proofs.YteadienaeapaeaaDoorW.PrintWords Go.Proofs.YteadienaeapaeaaDoorW.PrintLast Go.Proofs.YteadienaeapaeaaDoorW.PrintMore
attribute [local go_sem] max2_int min2_int max_two min_two max_three min_three max_four min_four   -- for this text's walks alone
set_option linter.unusedVariables false
set_option linter.unusedSimpArgs false

/-! ### spec_FirstUnnamed: function 35 -/
mutual
def spec_FirstUnnamed.l0 : Nat → List (S34) → Int → Option (Int)
  | 0, _, _ => none
  | k + 1, x0, x3 => if x3 < (x0.length : Int) then (if 0 ≤ x3 then (if ((rd_T34 x0 x3).f1).toList = ([] : List UInt8) then (spec_FirstUnnamed.j1 k x0 x3 true ((rd_T34 x0 x3).f0) ((rd_T34 x0 x3).f1) ((rd_T34 x0 x3).f2.f0) ((rd_T34 x0 x3).f2.f1.f0) ((rd_T34 x0 x3).f2.f1.f1) ((rd_T34 x0 x3).f2.f1.f2) ((rd_T34 x0 x3).f3) ((rd_T34 x0 x3).f4) ((rd_T34 x0 x3).f5)) else (spec_FirstUnnamed.j1 k x0 x3 (((rd_T34 x0 x3).f0) == 4) ((rd_T34 x0 x3).f0) ((rd_T34 x0 x3).f1) ((rd_T34 x0 x3).f2.f0) ((rd_T34 x0 x3).f2.f1.f0) ((rd_T34 x0 x3).f2.f1.f1) ((rd_T34 x0 x3).f2.f1.f2) ((rd_T34 x0 x3).f3) ((rd_T34 x0 x3).f4) ((rd_T34 x0 x3).f5))) else (none)) else (some (-1))
def spec_FirstUnnamed.j1 : Nat → List (S34) → Int → Bool → Int → ByteArray → Int → Int → Int → Int → Int → Int → Bool → Option (Int)
  | 0, _, _, _, _, _, _, _, _, _, _, _, _ => none
  | k + 1, x0, x3, x27, x250000, x250001, x250002, x250003, x250004, x250005, x250006, x250007, x250008 => if x27 = true then (spec_FirstUnnamed.l0 k x0 (wrap64 (x3 + 1))) else (spec_FirstUnnamed.l1 k x0 x3 false 0 x250000 x250001 x250002 x250003 x250004 x250005 x250006 x250007 x250008)
def spec_FirstUnnamed.l1 : Nat → List (S34) → Int → Bool → Int → Int → ByteArray → Int → Int → Int → Int → Int → Int → Bool → Option (Int)
  | 0, _, _, _, _, _, _, _, _, _, _, _, _, _ => none
  | k + 1, x0, x3, x5, x6, x250000, x250001, x250002, x250003, x250004, x250005, x250006, x250007, x250008 => if x6 < x3 then (if x5 = true then (spec_FirstUnnamed.l1 k x0 x3 true (wrap64 (x6 + 1)) x250000 x250001 x250002 x250003 x250004 x250005 x250006 x250007 x250008) else (if 0 ≤ x6 then (if x6 < (x0.length : Int) then (if ((rd_T34 x0 x6).f0) = 4 then (spec_FirstUnnamed.l1 k x0 x3 (((rd_T34 x0 x6).f1).toList == x250001.toList) (wrap64 (x6 + 1)) x250000 x250001 x250002 x250003 x250004 x250005 x250006 x250007 x250008) else (spec_FirstUnnamed.l1 k x0 x3 false (wrap64 (x6 + 1)) x250000 x250001 x250002 x250003 x250004 x250005 x250006 x250007 x250008)) else (none)) else (none))) else (if x5 = true then (spec_FirstUnnamed.l0 k x0 (wrap64 (x3 + 1))) else (some x3))
end
def spec_FirstUnnamed.f (k : Nat) (l0 : List (S34)) : Option (Int) := (spec_l27Program.f k l0).bind fun t247 => (if t247 = true then (spec_FirstUnnamed.l0 k l0 0) else (some (-1)))
theorem spec_FirstUnnamed.mono_l : ∀ k, (∀ y0 y1, LeO (spec_FirstUnnamed.l0 k y0 y1) (spec_FirstUnnamed.l0 (k + 1) y0 y1)) ∧ (∀ y0 y1 y2 y3 y4 y5 y6 y7 y8 y9 y10 y11, LeO (spec_FirstUnnamed.j1 k y0 y1 y2 y3 y4 y5 y6 y7 y8 y9 y10 y11) (spec_FirstUnnamed.j1 (k + 1) y0 y1 y2 y3 y4 y5 y6 y7 y8 y9 y10 y11)) ∧ (∀ y0 y1 y2 y3 y4 y5 y6 y7 y8 y9 y10 y11 y12, LeO (spec_FirstUnnamed.l1 k y0 y1 y2 y3 y4 y5 y6 y7 y8 y9 y10 y11 y12) (spec_FirstUnnamed.l1 (k + 1) y0 y1 y2 y3 y4 y5 y6 y7 y8 y9 y10 y11 y12))
  | 0 => ⟨fun _ _ r h => by simp [spec_FirstUnnamed.l0] at h, fun _ _ _ _ _ _ _ _ _ _ _ _ r h => by simp [spec_FirstUnnamed.j1] at h, fun _ _ _ _ _ _ _ _ _ _ _ _ _ r h => by simp [spec_FirstUnnamed.l1] at h⟩
  | k + 1 => by
    obtain ⟨ih0, ih1, ih2⟩ := spec_FirstUnnamed.mono_l k
    refine ⟨?_, ?_, ?_⟩
    · intro y0 y1
      unfold spec_FirstUnnamed.l0
      repeat' first
      | (with_reducible exact ih0 _ _)
      | (with_reducible exact ih1 _ _ _ _ _ _ _ _ _ _ _ _)
      | (with_reducible exact ih2 _ _ _ _ _ _ _ _ _ _ _ _ _)
      | (with_reducible exact spec_l27Program.mono _ _)
      | (with_reducible exact LeO.refl _)
      | (with_reducible exact LeO.none _)
      | (with_reducible refine LeO.ite ?_ ?_)
      | (with_reducible refine LeO.bind ?_ (fun _ => ?_))
      | exact ih0 _ _
      | exact ih1 _ _ _ _ _ _ _ _ _ _ _ _
      | exact ih2 _ _ _ _ _ _ _ _ _ _ _ _ _
      | exact spec_l27Program.mono _ _
      | exact LeO.none _
      | refine LeO.ite ?_ ?_
      | refine LeO.bind ?_ (fun _ => ?_)
    · intro y0 y1 y2 y3 y4 y5 y6 y7 y8 y9 y10 y11
      unfold spec_FirstUnnamed.j1
      repeat' first
      | (with_reducible exact ih0 _ _)
      | (with_reducible exact ih1 _ _ _ _ _ _ _ _ _ _ _ _)
      | (with_reducible exact ih2 _ _ _ _ _ _ _ _ _ _ _ _ _)
      | (with_reducible exact spec_l27Program.mono _ _)
      | (with_reducible exact LeO.refl _)
      | (with_reducible exact LeO.none _)
      | (with_reducible refine LeO.ite ?_ ?_)
      | (with_reducible refine LeO.bind ?_ (fun _ => ?_))
      | exact ih0 _ _
      | exact ih1 _ _ _ _ _ _ _ _ _ _ _ _
      | exact ih2 _ _ _ _ _ _ _ _ _ _ _ _ _
      | exact spec_l27Program.mono _ _
      | exact LeO.none _
      | refine LeO.ite ?_ ?_
      | refine LeO.bind ?_ (fun _ => ?_)
    · intro y0 y1 y2 y3 y4 y5 y6 y7 y8 y9 y10 y11 y12
      unfold spec_FirstUnnamed.l1
      repeat' first
      | (with_reducible exact ih0 _ _)
      | (with_reducible exact ih1 _ _ _ _ _ _ _ _ _ _ _ _)
      | (with_reducible exact ih2 _ _ _ _ _ _ _ _ _ _ _ _ _)
      | (with_reducible exact spec_l27Program.mono _ _)
      | (with_reducible exact LeO.refl _)
      | (with_reducible exact LeO.none _)
      | (with_reducible refine LeO.ite ?_ ?_)
      | (with_reducible refine LeO.bind ?_ (fun _ => ?_))
      | exact ih0 _ _
      | exact ih1 _ _ _ _ _ _ _ _ _ _ _ _
      | exact ih2 _ _ _ _ _ _ _ _ _ _ _ _ _
      | exact spec_l27Program.mono _ _
      | exact LeO.none _
      | refine LeO.ite ?_ ?_
      | refine LeO.bind ?_ (fun _ => ?_)
theorem spec_FirstUnnamed.mono : ∀ a0 k, LeO (spec_FirstUnnamed.f k a0) (spec_FirstUnnamed.f (k + 1) a0) := by
  intro a0 k
  obtain ⟨ih0, ih1, ih2⟩ := spec_FirstUnnamed.mono_l k
  unfold spec_FirstUnnamed.f
  repeat' first
      | (with_reducible exact ih0 _ _)
      | (with_reducible exact ih1 _ _ _ _ _ _ _ _ _ _ _ _)
      | (with_reducible exact ih2 _ _ _ _ _ _ _ _ _ _ _ _ _)
      | (with_reducible exact spec_l27Program.mono _ _)
      | (with_reducible exact LeO.refl _)
      | (with_reducible exact LeO.none _)
      | (with_reducible refine LeO.ite ?_ ?_)
      | (with_reducible refine LeO.bind ?_ (fun _ => ?_))
      | exact ih0 _ _
      | exact ih1 _ _ _ _ _ _ _ _ _ _ _ _
      | exact ih2 _ _ _ _ _ _ _ _ _ _ _ _ _
      | exact spec_l27Program.mono _ _
      | exact LeO.none _
      | refine LeO.ite ?_ ?_
      | refine LeO.bind ?_ (fun _ => ?_)
set_option maxHeartbeats 8000000 in
set_option maxRecDepth 100000 in
theorem spec_FirstUnnamed.calls (k : Nat) (A0 : Option Addr) (c0 : Nat) (l0 : List (S34)) (r : Int) (w : World) (hr0 : Kd.C k34 w A0 l0.length l0) (hc0 : l0.length ≤ c0) (h : spec_FirstUnnamed.f k l0 = some r) :
    Calls Tryd.prog 35 #[.slice A0 l0.length c0] w fun e w' => e = .returned (.int .i64 r) ∧ Below w.heap.size w w' := by
  have hu34 := Tryd.underlying34
  have HR0 := Aside0.mk hr0
  have HC0 := Aside0.mk hc0
  clear hr0 hc0
  have HB := Aside0.mk (Below.refl w.heap.size w)
  have H : ((spec_l27Program.f k l0).bind fun t247 => (if t247 = true then (spec_FirstUnnamed.l0 k l0 0) else (some (-1)))) = some r := h
  clear h
  replace H := Option.bind_eq_some_iff.mp H
  obtain ⟨t247, A20, H⟩ := H
  replace H : (if t247 = true then (spec_FirstUnnamed.l0 k l0 0) else (some (-1))) = some r := H
  have A2 := Aside0.mk A20
  clear A20
  by_cases c3 : t247 = true
  · subst c3
    rw [if_pos rfl] at H
    have H' := Aside0.mk H
    clear H
    go_enter Tryd.func35, Tryd.ntmps35
    go_wp2_with (first | (go_at_call 55; (with_reducible refine (spec_l27Program.calls k _ _ l0 true _ ?side1 ?side2 A2.out).mono ?_); (case side1 => repeat (first | exact HR0.out | (with_reducible refine Kd.C_alloc ?_ _) | (with_reducible refine Kd.C_drewN ?_ _) | (with_reducible refine Kd.C_drew ?_))); (case side2 => exact HC0.out); rintro e w4 ⟨rfl, hb⟩; replace HB := bs hb; (try clear hb); (try clear hb2); (try clear hk); (try clear hi)))
    repeat (go_quiet (first | (go_at_call 55; (with_reducible refine (spec_l27Program.calls k _ _ l0 true _ ?side1 ?side2 A2.out).mono ?_); (case side1 => repeat (first | exact HR0.out | (with_reducible refine Kd.C_alloc ?_ _) | (with_reducible refine Kd.C_drewN ?_ _) | (with_reducible refine Kd.C_drew ?_))); (case side2 => exact HC0.out); rintro e w4 ⟨rfl, hb⟩; replace HB := bs hb; (try clear hb); (try clear hb2); (try clear hk); (try clear hi))); try go_wp2_with (first | (go_at_call 55; (with_reducible refine (spec_l27Program.calls k _ _ l0 true _ ?side1 ?side2 A2.out).mono ?_); (case side1 => repeat (first | exact HR0.out | (with_reducible refine Kd.C_alloc ?_ _) | (with_reducible refine Kd.C_drewN ?_ _) | (with_reducible refine Kd.C_drew ?_))); (case side2 => exact HC0.out); rintro e w4 ⟨rfl, hb⟩; replace HB := bs hb; (try clear hb); (try clear hb2); (try clear hk); (try clear hi))))
    go_loopg [3] k (fun kq v3 w' => ∃ (x3_1 : Int), v3 = .int .i64 x3_1 ∧ Aside0 (spec_FirstUnnamed.l0 kq l0 x3_1 = some r) ∧ Aside0 (kq ≤ k) ∧ Aside0 (Below w.heap.size w w'))
    case atStart => exact ⟨(0), (by first | rfl | (simp; done) | (simp [*]; done)), H', ⟨Nat.le_refl _⟩, ⟨bw⟩⟩
    case round =>
      clear H'
      try clear p2
      try clear c3
      obtain ⟨x3_1, rfl, HA, HK1, HB⟩ := hrel
      cases gk with
      | zero => exact absurd HA.out (by simp [spec_FirstUnnamed.l0])
      | succ k1 =>
        have H := HA.out
        clear HA
        simp only [spec_FirstUnnamed.l0] at H
        by_cases c5 : x3_1 < (l0.length : Int)
        · rw [if_pos c5] at H
          have c5b0 : decide (x3_1 < (l0.length : Int)) = true := decide_eq_true c5
          clear c5
          by_cases c6 : 0 ≤ x3_1
          · rw [if_pos c6] at H
            have c6b0 : decide (0 ≤ x3_1) = true := decide_eq_true c6
            clear c6
            have HC7 := Aside0.mk H
            clear H
            have p248 : 0 ≤ (x3_1 : Int) := od
            have q248 : x3_1 < (l0.length : Int) := od
            obtain ⟨ad248, e248, hx248_0, hx248_1, hx248_2, hx248_3, hx248_4, hx248_5, hx248_6, hx248_7, hx248_8⟩ := at_T34 HR0.out x3_1 p248 q248
            cases e248
            replace hx248_0 := bc hx248_0
            replace hx248_1 := bc hx248_1
            replace hx248_2 := bc hx248_2
            replace hx248_3 := bc hx248_3
            replace hx248_4 := bc hx248_4
            replace hx248_5 := bc hx248_5
            replace hx248_6 := bc hx248_6
            replace hx248_7 := bc hx248_7
            replace hx248_8 := bc hx248_8
            replace p248 := eq_true p248
            replace q248 := eq_true q248
            go_upto_region 7 with (first | ((with_reducible refine gate_dst (N := 4) rfl ?_); refine bx #[.int .i64 0, .string (⟨#[]⟩ : ByteArray), .int .i64 0, .int .i64 0, .int .i64 0, .int .i64 0, .int .i64 0, .int .i64 0, .bool false] 34 ?_; intro gb249 hg w8 hbox hb; have BK249 := Aside0.mk hbox; have GW249 := bg hg; have GE249 := bg hg; replace HB := bs hb; clear hb hbox hg; obtain ⟨z9_0, z9_1, z9_2, z9_3, z9_4, z9_5, z9_6, z9_7, z9_8, y9_0, y9_1, y9_2, y9_3, y9_4, y9_5, y9_6, y9_7, y9_8⟩ := bq9 BK249))
            repeat (go_quiet (first | ((with_reducible refine gate_dst (N := 4) rfl ?_); refine bx #[.int .i64 0, .string (⟨#[]⟩ : ByteArray), .int .i64 0, .int .i64 0, .int .i64 0, .int .i64 0, .int .i64 0, .int .i64 0, .bool false] 34 ?_; intro gb249 hg w8 hbox hb; have BK249 := Aside0.mk hbox; have GW249 := bg hg; have GE249 := bg hg; replace HB := bs hb; clear hb hbox hg; obtain ⟨z9_0, z9_1, z9_2, z9_3, z9_4, z9_5, z9_6, z9_7, z9_8, y9_0, y9_1, y9_2, y9_3, y9_4, y9_5, y9_6, y9_7, y9_8⟩ := bq9 BK249)); go_upto_region 7 with (first | ((with_reducible refine gate_dst (N := 4) rfl ?_); refine bx #[.int .i64 0, .string (⟨#[]⟩ : ByteArray), .int .i64 0, .int .i64 0, .int .i64 0, .int .i64 0, .int .i64 0, .int .i64 0, .bool false] 34 ?_; intro gb249 hg w8 hbox hb; have BK249 := Aside0.mk hbox; have GW249 := bg hg; have GE249 := bg hg; replace HB := bs hb; clear hb hbox hg; obtain ⟨z9_0, z9_1, z9_2, z9_3, z9_4, z9_5, z9_6, z9_7, z9_8, y9_0, y9_1, y9_2, y9_3, y9_4, y9_5, y9_6, y9_7, y9_8⟩ := bq9 BK249)))
            (try simp only [Act.put, List.setIfInBounds_toArray, List.set_cons_zero, List.set_cons_succ])
            go_cut [27] (fun v27 wc => ∃ (kq : Nat) (x27_6 : Bool), v27 = .bool x27_6 ∧ Aside0 (spec_FirstUnnamed.j1 kq l0 x3_1 x27_6 ((rd_T34 l0 x3_1).f0) ((rd_T34 l0 x3_1).f1) ((rd_T34 l0 x3_1).f2.f0) ((rd_T34 l0 x3_1).f2.f1.f0) ((rd_T34 l0 x3_1).f2.f1.f1) ((rd_T34 l0 x3_1).f2.f1.f2) ((rd_T34 l0 x3_1).f3) ((rd_T34 l0 x3_1).f4) ((rd_T34 l0 x3_1).f5) = some r) ∧ Aside0 (kq ≤ k1) ∧ Aside0 (wc.heap[gb249]? = some (.cells #[.int .i64 ((rd_T34 l0 x3_1).f0), .string ((rd_T34 l0 x3_1).f1), .int .i64 ((rd_T34 l0 x3_1).f2.f0), .int .i64 ((rd_T34 l0 x3_1).f2.f1.f0), .int .i64 ((rd_T34 l0 x3_1).f2.f1.f1), .int .i64 ((rd_T34 l0 x3_1).f2.f1.f2), .int .i64 ((rd_T34 l0 x3_1).f3), .int .i64 ((rd_T34 l0 x3_1).f4), .bool ((rd_T34 l0 x3_1).f5)] 34 (0, 0))) ∧ Aside0 (Below w.heap.size w wc))
            case first =>
              have H := HC7.out
              clear HC7
              by_cases c10 : ((rd_T34 l0 x3_1).f1).toList = ([] : List UInt8)
              · rw [if_pos c10] at H
                have c10b0 : (((rd_T34 l0 x3_1).f1).toList == ([] : List UInt8)) = true := beq_iff_eq.mpr c10
                have c10b1 : (((rd_T34 l0 x3_1).f1).toList != ([] : List UInt8)) = false := bne_eq_false_iff_eq.mpr c10
                clear c10
                (first | rw [c10b0] | (simp only [i64_w, i32_w]; rw [c10b0]) | skip)
                have H' := Aside0.mk H
                clear H
                obtain ⟨z11_0, z11_1, z11_2, z11_3, z11_4, z11_5, z11_6, z11_7, z11_8, y11_0, y11_1, y11_2, y11_3, y11_4, y11_5, y11_6, y11_7, y11_8⟩ := bq9 BK249
                go_wp2
                repeat (go_quiet (fail); try go_wp2)
                go_meet
                case rel => exact ⟨_, (true), (by first | rfl | (simp; done) | (simp [*]; done)), H', ⟨by have := HK1.out; first | omega | exact Nat.le_refl _⟩, ⟨by refine bk (h := ?_); refine blk_put (cs := #[.int .i64 ((rd_T34 l0 x3_1).f0), .string ((rd_T34 l0 x3_1).f1), .int .i64 ((rd_T34 l0 x3_1).f2.f0), .int .i64 ((rd_T34 l0 x3_1).f2.f1.f0), .int .i64 ((rd_T34 l0 x3_1).f2.f1.f1), .int .i64 ((rd_T34 l0 x3_1).f2.f1.f2), .int .i64 ((rd_T34 l0 x3_1).f3), .int .i64 ((rd_T34 l0 x3_1).f4), .bool false]) ?_ 8 _ rfl; refine bk (h := ?_); refine blk_put (cs := #[.int .i64 ((rd_T34 l0 x3_1).f0), .string ((rd_T34 l0 x3_1).f1), .int .i64 ((rd_T34 l0 x3_1).f2.f0), .int .i64 ((rd_T34 l0 x3_1).f2.f1.f0), .int .i64 ((rd_T34 l0 x3_1).f2.f1.f1), .int .i64 ((rd_T34 l0 x3_1).f2.f1.f2), .int .i64 ((rd_T34 l0 x3_1).f3), .int .i64 0, .bool false]) ?_ 7 _ rfl; refine bk (h := ?_); refine blk_put (cs := #[.int .i64 ((rd_T34 l0 x3_1).f0), .string ((rd_T34 l0 x3_1).f1), .int .i64 ((rd_T34 l0 x3_1).f2.f0), .int .i64 ((rd_T34 l0 x3_1).f2.f1.f0), .int .i64 ((rd_T34 l0 x3_1).f2.f1.f1), .int .i64 ((rd_T34 l0 x3_1).f2.f1.f2), .int .i64 0, .int .i64 0, .bool false]) ?_ 6 _ rfl; refine bk (h := ?_); refine blk_put (cs := #[.int .i64 ((rd_T34 l0 x3_1).f0), .string ((rd_T34 l0 x3_1).f1), .int .i64 ((rd_T34 l0 x3_1).f2.f0), .int .i64 ((rd_T34 l0 x3_1).f2.f1.f0), .int .i64 ((rd_T34 l0 x3_1).f2.f1.f1), .int .i64 0, .int .i64 0, .int .i64 0, .bool false]) ?_ 5 _ rfl; refine bk (h := ?_); refine blk_put (cs := #[.int .i64 ((rd_T34 l0 x3_1).f0), .string ((rd_T34 l0 x3_1).f1), .int .i64 ((rd_T34 l0 x3_1).f2.f0), .int .i64 ((rd_T34 l0 x3_1).f2.f1.f0), .int .i64 0, .int .i64 0, .int .i64 0, .int .i64 0, .bool false]) ?_ 4 _ rfl; refine bk (h := ?_); refine blk_put (cs := #[.int .i64 ((rd_T34 l0 x3_1).f0), .string ((rd_T34 l0 x3_1).f1), .int .i64 ((rd_T34 l0 x3_1).f2.f0), .int .i64 0, .int .i64 0, .int .i64 0, .int .i64 0, .int .i64 0, .bool false]) ?_ 3 _ rfl; refine bk (h := ?_); refine blk_put (cs := #[.int .i64 ((rd_T34 l0 x3_1).f0), .string ((rd_T34 l0 x3_1).f1), .int .i64 0, .int .i64 0, .int .i64 0, .int .i64 0, .int .i64 0, .int .i64 0, .bool false]) ?_ 2 _ rfl; refine bk (h := ?_); refine blk_put (cs := #[.int .i64 ((rd_T34 l0 x3_1).f0), .string (⟨#[]⟩ : ByteArray), .int .i64 0, .int .i64 0, .int .i64 0, .int .i64 0, .int .i64 0, .int .i64 0, .bool false]) ?_ 1 _ rfl; refine bk (h := ?_); refine blk_put (cs := #[.int .i64 0, .string (⟨#[]⟩ : ByteArray), .int .i64 0, .int .i64 0, .int .i64 0, .int .i64 0, .int .i64 0, .int .i64 0, .bool false]) ?_ 0 _ rfl; refine bk (h := ?_); exact BK249.out⟩, ⟨bw⟩⟩
              · rw [if_neg c10] at H
                have c10b0 : (((rd_T34 l0 x3_1).f1).toList == ([] : List UInt8)) = false := beq_eq_false_iff_ne.mpr c10
                have c10b1 : (((rd_T34 l0 x3_1).f1).toList != ([] : List UInt8)) = true := bne_iff_ne.mpr c10
                (first | rw [c10b0] | (simp only [i64_w, i32_w]; rw [c10b0]) | skip)
                have H' := Aside0.mk H
                clear H
                obtain ⟨z12_0, z12_1, z12_2, z12_3, z12_4, z12_5, z12_6, z12_7, z12_8, y12_0, y12_1, y12_2, y12_3, y12_4, y12_5, y12_6, y12_7, y12_8⟩ := bq9 BK249
                go_wp2
                repeat (go_quiet (fail); try go_wp2)
                go_meet
                case rel => exact ⟨_, ((((rd_T34 l0 x3_1).f0) == 4)), (by first | rfl | (simp; done) | (simp [*]; done)), H', ⟨by have := HK1.out; first | omega | exact Nat.le_refl _⟩, ⟨by refine bk (h := ?_); refine blk_put (cs := #[.int .i64 ((rd_T34 l0 x3_1).f0), .string ((rd_T34 l0 x3_1).f1), .int .i64 ((rd_T34 l0 x3_1).f2.f0), .int .i64 ((rd_T34 l0 x3_1).f2.f1.f0), .int .i64 ((rd_T34 l0 x3_1).f2.f1.f1), .int .i64 ((rd_T34 l0 x3_1).f2.f1.f2), .int .i64 ((rd_T34 l0 x3_1).f3), .int .i64 ((rd_T34 l0 x3_1).f4), .bool false]) ?_ 8 _ rfl; refine bk (h := ?_); refine blk_put (cs := #[.int .i64 ((rd_T34 l0 x3_1).f0), .string ((rd_T34 l0 x3_1).f1), .int .i64 ((rd_T34 l0 x3_1).f2.f0), .int .i64 ((rd_T34 l0 x3_1).f2.f1.f0), .int .i64 ((rd_T34 l0 x3_1).f2.f1.f1), .int .i64 ((rd_T34 l0 x3_1).f2.f1.f2), .int .i64 ((rd_T34 l0 x3_1).f3), .int .i64 0, .bool false]) ?_ 7 _ rfl; refine bk (h := ?_); refine blk_put (cs := #[.int .i64 ((rd_T34 l0 x3_1).f0), .string ((rd_T34 l0 x3_1).f1), .int .i64 ((rd_T34 l0 x3_1).f2.f0), .int .i64 ((rd_T34 l0 x3_1).f2.f1.f0), .int .i64 ((rd_T34 l0 x3_1).f2.f1.f1), .int .i64 ((rd_T34 l0 x3_1).f2.f1.f2), .int .i64 0, .int .i64 0, .bool false]) ?_ 6 _ rfl; refine bk (h := ?_); refine blk_put (cs := #[.int .i64 ((rd_T34 l0 x3_1).f0), .string ((rd_T34 l0 x3_1).f1), .int .i64 ((rd_T34 l0 x3_1).f2.f0), .int .i64 ((rd_T34 l0 x3_1).f2.f1.f0), .int .i64 ((rd_T34 l0 x3_1).f2.f1.f1), .int .i64 0, .int .i64 0, .int .i64 0, .bool false]) ?_ 5 _ rfl; refine bk (h := ?_); refine blk_put (cs := #[.int .i64 ((rd_T34 l0 x3_1).f0), .string ((rd_T34 l0 x3_1).f1), .int .i64 ((rd_T34 l0 x3_1).f2.f0), .int .i64 ((rd_T34 l0 x3_1).f2.f1.f0), .int .i64 0, .int .i64 0, .int .i64 0, .int .i64 0, .bool false]) ?_ 4 _ rfl; refine bk (h := ?_); refine blk_put (cs := #[.int .i64 ((rd_T34 l0 x3_1).f0), .string ((rd_T34 l0 x3_1).f1), .int .i64 ((rd_T34 l0 x3_1).f2.f0), .int .i64 0, .int .i64 0, .int .i64 0, .int .i64 0, .int .i64 0, .bool false]) ?_ 3 _ rfl; refine bk (h := ?_); refine blk_put (cs := #[.int .i64 ((rd_T34 l0 x3_1).f0), .string ((rd_T34 l0 x3_1).f1), .int .i64 0, .int .i64 0, .int .i64 0, .int .i64 0, .int .i64 0, .int .i64 0, .bool false]) ?_ 2 _ rfl; refine bk (h := ?_); refine blk_put (cs := #[.int .i64 ((rd_T34 l0 x3_1).f0), .string (⟨#[]⟩ : ByteArray), .int .i64 0, .int .i64 0, .int .i64 0, .int .i64 0, .int .i64 0, .int .i64 0, .bool false]) ?_ 1 _ rfl; refine bk (h := ?_); refine blk_put (cs := #[.int .i64 0, .string (⟨#[]⟩ : ByteArray), .int .i64 0, .int .i64 0, .int .i64 0, .int .i64 0, .int .i64 0, .int .i64 0, .bool false]) ?_ 0 _ rfl; refine bk (h := ?_); exact BK249.out⟩, ⟨bw⟩⟩
            case rest =>
              clear HC7
              try clear c1
              try clear p2
              try clear q2
              try clear hx2
              try clear c3
              try clear c5
              try clear c5b0
              try clear c6
              try clear c6b0
              try clear c10
              try clear c10b0
              try clear c10b1
              try clear z11_0 z11_1 z11_2 z11_3 z11_4 z11_5 z11_6 z11_7 z11_8 y11_0 y11_1 y11_2 y11_3 y11_4 y11_5 y11_6 y11_7 y11_8
              try clear z12_0 z12_1 z12_2 z12_3 z12_4 z12_5 z12_6 z12_7 z12_8 y12_0 y12_1 y12_2 y12_3 y12_4 y12_5 y12_6 y12_7 y12_8
              try clear z9_0 z9_1 z9_2 z9_3 z9_4 z9_5 z9_6 z9_7 z9_8 y9_0 y9_1 y9_2 y9_3 y9_4 y9_5 y9_6 y9_7 y9_8
              try clear hx248_0
              try clear hx248_1
              try clear hx248_2
              try clear hx248_3
              try clear hx248_4
              try clear hx248_5
              try clear hx248_6
              try clear hx248_7
              try clear hx248_8
              try clear p2
              try clear p248
              try clear q248
              obtain ⟨kq, x27_6, rfl, HA, HJ6, BK249, HB⟩ := hcut
              cases kq with
              | zero => exact absurd HA.out (by simp [spec_FirstUnnamed.j1])
              | succ kj6 =>
                have H := HA.out
                clear HA
                simp only [spec_FirstUnnamed.j1] at H
                by_cases c13 : x27_6 = true
                · subst c13
                  rw [if_pos rfl] at H
                  have H' := Aside0.mk H
                  clear H
                  go_wp2
                  repeat (go_quiet (fail); try go_wp2)
                  go_roundg kj6
                  case measure => have := HK1.out; have := HJ6.out; omega
                  case rel => exact ⟨(wrap64 (x3_1 + 1)), (by first | rfl | (simp; done) | (simp [*]; done)), H', ⟨by have := HK1.out; have := HJ6.out; omega⟩, ⟨bw⟩⟩
                · replace c13 := Bool.eq_false_iff.mpr c13
                  subst c13
                  rw [if_neg nf] at H
                  have H' := Aside0.mk H
                  clear H
                  go_wp2
                  repeat (go_quiet (fail); try go_wp2)
                  go_loopg [5, 6] kj6 (fun kq v5 v6 w' => ∃ (x5_3 : Bool) (x6_3 : Int), v5 = .bool x5_3 ∧ v6 = .int .i64 x6_3 ∧ Aside0 (spec_FirstUnnamed.l1 kq l0 x3_1 x5_3 x6_3 ((rd_T34 l0 x3_1).f0) ((rd_T34 l0 x3_1).f1) ((rd_T34 l0 x3_1).f2.f0) ((rd_T34 l0 x3_1).f2.f1.f0) ((rd_T34 l0 x3_1).f2.f1.f1) ((rd_T34 l0 x3_1).f2.f1.f2) ((rd_T34 l0 x3_1).f3) ((rd_T34 l0 x3_1).f4) ((rd_T34 l0 x3_1).f5) = some r) ∧ Aside0 (kq ≤ kj6) ∧ Aside0 (w'.heap[gb249]? = some (.cells #[.int .i64 ((rd_T34 l0 x3_1).f0), .string ((rd_T34 l0 x3_1).f1), .int .i64 ((rd_T34 l0 x3_1).f2.f0), .int .i64 ((rd_T34 l0 x3_1).f2.f1.f0), .int .i64 ((rd_T34 l0 x3_1).f2.f1.f1), .int .i64 ((rd_T34 l0 x3_1).f2.f1.f2), .int .i64 ((rd_T34 l0 x3_1).f3), .int .i64 ((rd_T34 l0 x3_1).f4), .bool ((rd_T34 l0 x3_1).f5)] 34 (0, 0))) ∧ Aside0 (Below w.heap.size w w'))
                  case atStart => exact ⟨(false), (0), (by first | rfl | (simp; done) | (simp [*]; done)), (by first | rfl | (simp; done) | (simp [*]; done)), H', ⟨Nat.le_refl _⟩, ⟨by refine bk (h := ?_); exact BK249.out⟩, ⟨bw⟩⟩
                  case round =>
                    clear H'
                    try clear c1
                    try clear p2
                    try clear q2
                    try clear hx2
                    try clear c3
                    try clear c5
                    try clear c5b0
                    try clear c6
                    try clear c6b0
                    try clear p6
                    try clear c10
                    try clear c10b0
                    try clear c10b1
                    try clear c13
                    try clear z11_0 z11_1 z11_2 z11_3 z11_4 z11_5 z11_6 z11_7 z11_8 y11_0 y11_1 y11_2 y11_3 y11_4 y11_5 y11_6 y11_7 y11_8
                    try clear z12_0 z12_1 z12_2 z12_3 z12_4 z12_5 z12_6 z12_7 z12_8 y12_0 y12_1 y12_2 y12_3 y12_4 y12_5 y12_6 y12_7 y12_8
                    try clear z9_0 z9_1 z9_2 z9_3 z9_4 z9_5 z9_6 z9_7 z9_8 y9_0 y9_1 y9_2 y9_3 y9_4 y9_5 y9_6 y9_7 y9_8
                    try clear hx248_0
                    try clear hx248_1
                    try clear hx248_2
                    try clear hx248_3
                    try clear hx248_4
                    try clear hx248_5
                    try clear hx248_6
                    try clear hx248_7
                    try clear hx248_8
                    try clear p2
                    try clear p248
                    try clear q2
                    try clear q248
                    obtain ⟨x5_3, x6_3, rfl, rfl, HA, HK3, BK249, HB⟩ := hrel
                    cases gk with
                    | zero => exact absurd HA.out (by simp [spec_FirstUnnamed.l1])
                    | succ k3 =>
                      have H := HA.out
                      clear HA
                      simp only [spec_FirstUnnamed.l1] at H
                      by_cases c14 : x6_3 < x3_1
                      · rw [if_pos c14] at H
                        have c14b0 : decide (x6_3 < x3_1) = true := decide_eq_true c14
                        clear c14
                        by_cases c15 : x5_3 = true
                        · subst c15
                          rw [if_pos rfl] at H
                          have H' := Aside0.mk H
                          clear H
                          go_wp2
                          repeat (go_quiet (fail); try go_wp2)
                          go_roundg k3
                          case measure => have := HK1.out; have := HJ6.out; have := HK3.out; omega
                          case rel => exact ⟨(true), (wrap64 (x6_3 + 1)), (by first | rfl | (simp; done) | (simp [*]; done)), (by first | rfl | (simp; done) | (simp [*]; done)), H', ⟨by have := HK1.out; have := HJ6.out; have := HK3.out; omega⟩, ⟨by refine bk (h := ?_); exact BK249.out⟩, ⟨bw⟩⟩
                        · replace c15 := Bool.eq_false_iff.mpr c15
                          subst c15
                          rw [if_neg nf] at H
                          by_cases c16 : 0 ≤ x6_3
                          · rw [if_pos c16] at H
                            have c16b0 : decide (0 ≤ x6_3) = true := decide_eq_true c16
                            clear c16
                            by_cases c17 : x6_3 < (l0.length : Int)
                            · rw [if_pos c17] at H
                              have c17b0 : decide (x6_3 < (l0.length : Int)) = true := decide_eq_true c17
                              clear c17
                              by_cases c18 : ((rd_T34 l0 x6_3).f0) = 4
                              · rw [if_pos c18] at H
                                have c18b0 : (((rd_T34 l0 x6_3).f0) == 4) = true := beq_iff_eq.mpr c18
                                have c18b1 : (((rd_T34 l0 x6_3).f0) != 4) = false := bne_eq_false_iff_eq.mpr c18
                                clear c18
                                have H' := Aside0.mk H
                                clear H
                                have p250 : 0 ≤ (x6_3 : Int) := od
                                have q250 : x6_3 < (l0.length : Int) := od
                                obtain ⟨ad250, e250, hx250_0, hx250_1, hx250_2, hx250_3, hx250_4, hx250_5, hx250_6, hx250_7, hx250_8⟩ := at_T34 HR0.out x6_3 p250 q250
                                obtain rfl : ad248 = ad250 := (by injection e250)
                                replace hx250_0 := bc hx250_0
                                replace hx250_1 := bc hx250_1
                                replace hx250_2 := bc hx250_2
                                replace hx250_3 := bc hx250_3
                                replace hx250_4 := bc hx250_4
                                replace hx250_5 := bc hx250_5
                                replace hx250_6 := bc hx250_6
                                replace hx250_7 := bc hx250_7
                                replace hx250_8 := bc hx250_8
                                replace p250 := eq_true p250
                                replace q250 := eq_true q250
                                have p251 : 0 ≤ (x6_3 : Int) := od
                                have q251 : x6_3 < (l0.length : Int) := od
                                obtain ⟨ad251, e251, hx251_0, hx251_1, hx251_2, hx251_3, hx251_4, hx251_5, hx251_6, hx251_7, hx251_8⟩ := at_T34 HR0.out x6_3 p251 q251
                                obtain rfl : ad248 = ad251 := (by injection e251)
                                replace hx251_0 := bc hx251_0
                                replace hx251_1 := bc hx251_1
                                replace hx251_2 := bc hx251_2
                                replace hx251_3 := bc hx251_3
                                replace hx251_4 := bc hx251_4
                                replace hx251_5 := bc hx251_5
                                replace hx251_6 := bc hx251_6
                                replace hx251_7 := bc hx251_7
                                replace hx251_8 := bc hx251_8
                                replace p251 := eq_true p251
                                replace q251 := eq_true q251
                                obtain ⟨z19_0, z19_1, z19_2, z19_3, z19_4, z19_5, z19_6, z19_7, z19_8, y19_0, y19_1, y19_2, y19_3, y19_4, y19_5, y19_6, y19_7, y19_8⟩ := bq9 BK249
                                go_wp2
                                repeat (go_quiet (fail); try go_wp2)
                                go_roundg k3
                                case measure => have := HK1.out; have := HJ6.out; have := HK3.out; omega
                                case rel => exact ⟨((((rd_T34 l0 x6_3).f1).toList == ((rd_T34 l0 x3_1).f1).toList)), (wrap64 (x6_3 + 1)), (by first | rfl | (simp; done) | (simp [*]; done)), (by first | rfl | (simp; done) | (simp [*]; done)), H', ⟨by have := HK1.out; have := HJ6.out; have := HK3.out; omega⟩, ⟨by refine bk (h := ?_); exact BK249.out⟩, ⟨bw⟩⟩
                              · rw [if_neg c18] at H
                                have c18b0 : (((rd_T34 l0 x6_3).f0) == 4) = false := beq_eq_false_iff_ne.mpr c18
                                have c18b1 : (((rd_T34 l0 x6_3).f0) != 4) = true := bne_iff_ne.mpr c18
                                have H' := Aside0.mk H
                                clear H
                                have p250 : 0 ≤ (x6_3 : Int) := od
                                have q250 : x6_3 < (l0.length : Int) := od
                                obtain ⟨ad250, e250, hx250_0, hx250_1, hx250_2, hx250_3, hx250_4, hx250_5, hx250_6, hx250_7, hx250_8⟩ := at_T34 HR0.out x6_3 p250 q250
                                obtain rfl : ad248 = ad250 := (by injection e250)
                                replace hx250_0 := bc hx250_0
                                replace hx250_1 := bc hx250_1
                                replace hx250_2 := bc hx250_2
                                replace hx250_3 := bc hx250_3
                                replace hx250_4 := bc hx250_4
                                replace hx250_5 := bc hx250_5
                                replace hx250_6 := bc hx250_6
                                replace hx250_7 := bc hx250_7
                                replace hx250_8 := bc hx250_8
                                replace p250 := eq_true p250
                                replace q250 := eq_true q250
                                go_wp2
                                repeat (go_quiet (fail); try go_wp2)
                                go_roundg k3
                                case measure => have := HK1.out; have := HJ6.out; have := HK3.out; omega
                                case rel => exact ⟨(false), (wrap64 (x6_3 + 1)), (by first | rfl | (simp; done) | (simp [*]; done)), (by first | rfl | (simp; done) | (simp [*]; done)), H', ⟨by have := HK1.out; have := HJ6.out; have := HK3.out; omega⟩, ⟨by refine bk (h := ?_); exact BK249.out⟩, ⟨bw⟩⟩
                            · rw [if_neg c17] at H
                              exact absurd H (by simp)
                          · rw [if_neg c16] at H
                            exact absurd H (by simp)
                      · rw [if_neg c14] at H
                        have c14b0 : decide (x6_3 < x3_1) = false := decide_eq_false c14
                        clear c14
                        by_cases c20 : x5_3 = true
                        · subst c20
                          rw [if_pos rfl] at H
                          have H' := Aside0.mk H
                          clear H
                          go_wp2
                          repeat (go_quiet (fail); try go_wp2)
                          go_roundg k3
                          case measure => have := HK1.out; have := HJ6.out; have := HK3.out; omega
                          case rel => exact ⟨(wrap64 (x3_1 + 1)), (by first | rfl | (simp; done) | (simp [*]; done)), H', ⟨by have := HK1.out; have := HJ6.out; have := HK3.out; omega⟩, ⟨bw⟩⟩
                        · replace c20 := Bool.eq_false_iff.mpr c20
                          subst c20
                          rw [if_neg nf] at H
                          obtain rfl := Option.some.inj H
                          go_wp2
                          repeat (go_quiet (fail); try go_wp2)
                          go_ret
                          exact ⟨er, bw⟩
          · rw [if_neg c6] at H
            exact absurd H (by simp)
        · rw [if_neg c5] at H
          have c5b0 : decide (x3_1 < (l0.length : Int)) = false := decide_eq_false c5
          clear c5
          obtain rfl := Option.some.inj H
          go_wp2
          repeat (go_quiet (fail); try go_wp2)
          go_ret
          exact ⟨er, bw⟩
  · replace c3 := Bool.eq_false_iff.mpr c3
    subst c3
    rw [if_neg nf] at H
    obtain rfl := Option.some.inj H
    go_enter Tryd.func35, Tryd.ntmps35
    go_wp2_with (first | (go_at_call 55; (with_reducible refine (spec_l27Program.calls k _ _ l0 false _ ?side1 ?side2 A2.out).mono ?_); (case side1 => repeat (first | exact HR0.out | (with_reducible refine Kd.C_alloc ?_ _) | (with_reducible refine Kd.C_drewN ?_ _) | (with_reducible refine Kd.C_drew ?_))); (case side2 => exact HC0.out); rintro e w21 ⟨rfl, hb⟩; replace HB := bs hb; (try clear hb); (try clear hb2); (try clear hk); (try clear hi)))
    repeat (go_quiet (first | (go_at_call 55; (with_reducible refine (spec_l27Program.calls k _ _ l0 false _ ?side1 ?side2 A2.out).mono ?_); (case side1 => repeat (first | exact HR0.out | (with_reducible refine Kd.C_alloc ?_ _) | (with_reducible refine Kd.C_drewN ?_ _) | (with_reducible refine Kd.C_drew ?_))); (case side2 => exact HC0.out); rintro e w21 ⟨rfl, hb⟩; replace HB := bs hb; (try clear hb); (try clear hb2); (try clear hk); (try clear hi))); try go_wp2_with (first | (go_at_call 55; (with_reducible refine (spec_l27Program.calls k _ _ l0 false _ ?side1 ?side2 A2.out).mono ?_); (case side1 => repeat (first | exact HR0.out | (with_reducible refine Kd.C_alloc ?_ _) | (with_reducible refine Kd.C_drewN ?_ _) | (with_reducible refine Kd.C_drew ?_))); (case side2 => exact HC0.out); rintro e w21 ⟨rfl, hb⟩; replace HB := bs hb; (try clear hb); (try clear hb2); (try clear hk); (try clear hi))))
    go_ret
    exact ⟨er, bw⟩

/-! ### laws_FnExactFirstUnnamed: function 8 -/
def laws_FnExactFirstUnnamed.f (k : Nat) (l0 : List (S27)) : Option (Bool) := (laws_szStepS.f k l0 1048576).bind fun t252 => (if t252 < 0 then (some true) else ((laws_toStepS.f k l0).bind fun t253 => ((spec_FirstUnnamed.f k t253).bind fun t256 => ((laws_toStepS.f k l0).bind fun t257 => ((impl_FirstUnnamed.f k t257).bind fun t260 => (if t260 = t256 then ((laws_toStepS.f k l0).bind fun t261 => ((laws_eqStepS.f k t257 t261).bind fun t264 => (if t264 = true then (some true) else (some false)))) else (some false)))))))
theorem laws_FnExactFirstUnnamed.mono : ∀ a0 k, LeO (laws_FnExactFirstUnnamed.f k a0) (laws_FnExactFirstUnnamed.f (k + 1) a0) := by
  intro a0 k
  unfold laws_FnExactFirstUnnamed.f
  repeat' first
      | (with_reducible exact impl_FirstUnnamed.mono _ _)
      | (with_reducible exact laws_eqStepS.mono _ _ _)
      | (with_reducible exact laws_szStepS.mono _ _ _)
      | (with_reducible exact laws_toStepS.mono _ _)
      | (with_reducible exact spec_FirstUnnamed.mono _ _)
      | (with_reducible exact LeO.refl _)
      | (with_reducible exact LeO.none _)
      | (with_reducible refine LeO.ite ?_ ?_)
      | (with_reducible refine LeO.bind ?_ (fun _ => ?_))
      | exact impl_FirstUnnamed.mono _ _
      | exact laws_eqStepS.mono _ _ _
      | exact laws_szStepS.mono _ _ _
      | exact laws_toStepS.mono _ _
      | exact spec_FirstUnnamed.mono _ _
      | exact LeO.none _
      | refine LeO.ite ?_ ?_
      | refine LeO.bind ?_ (fun _ => ?_)
set_option maxHeartbeats 8000000 in
set_option maxRecDepth 100000 in
theorem laws_FnExactFirstUnnamed.calls (k : Nat) (A0 : Option Addr) (c0 : Nat) (l0 : List (S27)) (r : Bool) (w : World) (hr0 : Kd.C k27 w A0 l0.length l0) (hc0 : l0.length ≤ c0) (h : laws_FnExactFirstUnnamed.f k l0 = some r) :
    Calls Tryd.prog 8 #[.slice A0 l0.length c0] w fun e w' => e = .returned (.bool r) ∧ Below w.heap.size w w' := by
  have HR0 := Aside0.mk hr0
  have HC0 := Aside0.mk hc0
  clear hr0 hc0
  have HB := Aside0.mk (Below.refl w.heap.size w)
  have H : ((laws_szStepS.f k l0 1048576).bind fun t252 => (if t252 < 0 then (some true) else ((laws_toStepS.f k l0).bind fun t253 => ((spec_FirstUnnamed.f k t253).bind fun t256 => ((laws_toStepS.f k l0).bind fun t257 => ((impl_FirstUnnamed.f k t257).bind fun t260 => (if t260 = t256 then ((laws_toStepS.f k l0).bind fun t261 => ((laws_eqStepS.f k t257 t261).bind fun t264 => (if t264 = true then (some true) else (some false)))) else (some false)))))))) = some r := h
  clear h
  replace H := Option.bind_eq_some_iff.mp H
  obtain ⟨t252, A20, H⟩ := H
  replace H : (if t252 < 0 then (some true) else ((laws_toStepS.f k l0).bind fun t253 => ((spec_FirstUnnamed.f k t253).bind fun t256 => ((laws_toStepS.f k l0).bind fun t257 => ((impl_FirstUnnamed.f k t257).bind fun t260 => (if t260 = t256 then ((laws_toStepS.f k l0).bind fun t261 => ((laws_eqStepS.f k t257 t261).bind fun t264 => (if t264 = true then (some true) else (some false)))) else (some false))))))) = some r := H
  have A2 := Aside0.mk A20
  clear A20
  by_cases c3 : t252 < 0
  · rw [if_pos c3] at H
    have c3b0 : decide (t252 < 0) = true := decide_eq_true c3
    clear c3
    obtain rfl := Option.some.inj H
    go_enter Tryd.func8, Tryd.ntmps8
    go_wp2_with (first | ((with_reducible refine gate_callee (f := 15) rfl ?_); refine gl (some 9) Tryd.func15 #[.slice A0 l0.length c0, .int .i64 1048576] ?_; (with_reducible refine (laws_szStepS.calls k _ _ l0 1048576 t252 _ ?side1 ?side2 A2.out).mono ?_); (case side1 => repeat (first | exact HR0.out | (with_reducible refine Kd.C_alloc ?_ _) | (with_reducible refine Kd.C_drewN ?_ _) | (with_reducible refine Kd.C_drew ?_))); (case side2 => exact HC0.out); rintro e w4 ⟨rfl, hb⟩; refine ⟨_, rfl, ?_⟩; replace HB := bs hb; (try clear hb); (try clear hb2); (try clear hk); (try clear hi)))
    go_ret
    exact ⟨er, bw⟩
  · rw [if_neg c3] at H
    have c3b0 : decide (t252 < 0) = false := decide_eq_false c3
    clear c3
    replace H := Option.bind_eq_some_iff.mp H
    obtain ⟨t253, A50, H⟩ := H
    replace H : ((spec_FirstUnnamed.f k t253).bind fun t256 => ((laws_toStepS.f k l0).bind fun t257 => ((impl_FirstUnnamed.f k t257).bind fun t260 => (if t260 = t256 then ((laws_toStepS.f k l0).bind fun t261 => ((laws_eqStepS.f k t257 t261).bind fun t264 => (if t264 = true then (some true) else (some false)))) else (some false))))) = some r := H
    have A5 := Aside0.mk A50
    clear A50
    replace H := Option.bind_eq_some_iff.mp H
    obtain ⟨t256, A60, H⟩ := H
    replace H : ((laws_toStepS.f k l0).bind fun t257 => ((impl_FirstUnnamed.f k t257).bind fun t260 => (if t260 = t256 then ((laws_toStepS.f k l0).bind fun t261 => ((laws_eqStepS.f k t257 t261).bind fun t264 => (if t264 = true then (some true) else (some false)))) else (some false)))) = some r := H
    have A6 := Aside0.mk A60
    clear A60
    replace H := Option.bind_eq_some_iff.mp H
    obtain ⟨t257, A70, H⟩ := H
    replace H : ((impl_FirstUnnamed.f k t257).bind fun t260 => (if t260 = t256 then ((laws_toStepS.f k l0).bind fun t261 => ((laws_eqStepS.f k t257 t261).bind fun t264 => (if t264 = true then (some true) else (some false)))) else (some false))) = some r := H
    have A7 := Aside0.mk A70
    clear A70
    replace H := Option.bind_eq_some_iff.mp H
    obtain ⟨t260, A80, H⟩ := H
    replace H : (if t260 = t256 then ((laws_toStepS.f k l0).bind fun t261 => ((laws_eqStepS.f k t257 t261).bind fun t264 => (if t264 = true then (some true) else (some false)))) else (some false)) = some r := H
    have A8 := Aside0.mk A80
    clear A80
    by_cases c9 : t260 = t256
    · rw [if_pos c9] at H
      have c9b0 : (t260 == t256) = true := beq_iff_eq.mpr c9
      have c9b1 : (t260 != t256) = false := bne_eq_false_iff_eq.mpr c9
      clear c9
      replace H := Option.bind_eq_some_iff.mp H
      obtain ⟨t261, A100, H⟩ := H
      replace H : ((laws_eqStepS.f k t257 t261).bind fun t264 => (if t264 = true then (some true) else (some false))) = some r := H
      have A10 := Aside0.mk A100
      clear A100
      replace H := Option.bind_eq_some_iff.mp H
      obtain ⟨t264, A110, H⟩ := H
      replace H : (if t264 = true then (some true) else (some false)) = some r := H
      have A11 := Aside0.mk A110
      clear A110
      by_cases c12 : t264 = true
      · subst c12
        rw [if_pos rfl] at H
        obtain rfl := Option.some.inj H
        go_enter Tryd.func8, Tryd.ntmps8
        go_wp2_with (first | ((with_reducible refine gate_callee (f := 15) rfl ?_); refine gl (some 9) Tryd.func15 #[.slice A0 l0.length c0, .int .i64 1048576] ?_; (with_reducible refine (laws_szStepS.calls k _ _ l0 1048576 t252 _ ?side1 ?side2 A2.out).mono ?_); (case side1 => repeat (first | exact HR0.out | (with_reducible refine Kd.C_alloc ?_ _) | (with_reducible refine Kd.C_drewN ?_ _) | (with_reducible refine Kd.C_drew ?_))); (case side2 => exact HC0.out); rintro e w13 ⟨rfl, hb⟩; refine ⟨_, rfl, ?_⟩; replace HB := bs hb; (try clear hb); (try clear hb2); (try clear hk); (try clear hi)) | ((with_reducible refine gate_callee (f := 17) rfl ?_); refine gl (some 13) Tryd.func17 #[.slice A0 l0.length c0] ?_; (with_reducible refine (laws_toStepS.calls k _ _ l0 t253 _ ?side1 ?side2 A5.out).mono ?_); (case side1 => exact sd HR0); (case side2 => exact HC0.out); rintro e w14 ⟨v254, rfl, ho0, hb⟩; refine ⟨_, rfl, ?_⟩; have HO255 := Aside0.mk (Kd.R_lower ho0 (below_size bw)); replace HB := bs hb; (try clear hb); (try clear hb2); (try clear hk); (try clear hi); (try clear ho0); obtain ⟨Ao15, co15, eo15⟩ := Kd.R_slice HO255.out; subst eo15) | ((with_reducible refine gate_callee (f := 35) rfl ?_); refine gl (some 14) Tryd.func35 #[.slice Ao15 t253.length co15] ?_; (with_reducible refine (spec_FirstUnnamed.calls k _ _ t253 t256 _ ?side1 ?side2 A6.out).mono ?_); (case side1 => exact se HO255); (case side2 => exact (Kd.R_reads' HO255.out).2.1); rintro e w16 ⟨rfl, hb⟩; refine ⟨_, rfl, ?_⟩; replace HO255 := Aside0.mk (Kd.R_below (ra (h := HO255.out)) hb); replace HB := bs hb; (try clear hb); (try clear hb2); (try clear hk); (try clear hi)) | ((with_reducible refine gate_callee (f := 17) rfl ?_); refine gl (some 16) Tryd.func17 #[.slice A0 l0.length c0] ?_; (with_reducible refine (laws_toStepS.calls k _ _ l0 t257 _ ?side1 ?side2 A7.out).mono ?_); (case side1 => exact sd HR0); (case side2 => exact HC0.out); rintro e w17 ⟨v258, rfl, ho0, hb⟩; refine ⟨_, rfl, ?_⟩; have HO259 := Aside0.mk (Kd.R_lower (Kd.R_new' ho0 (Kd.R_lt (ra (h := HO255.out)))) (below_size bw)); replace HO255 := Aside0.mk (Kd.R_elder' (ra (h := HO255.out)) (Kd.R_base ho0) hb); replace HB := bs hb; (try clear hb); (try clear hb2); (try clear hk); (try clear hi); (try clear ho0); obtain ⟨Ao18, co18, eo18⟩ := Kd.R_slice HO259.out; subst eo18) | ((with_reducible refine gate_callee (f := 34) rfl ?_); refine gl (some 18) Tryd.func34 #[.slice Ao18 t257.length co18] ?_; (with_reducible refine (impl_FirstUnnamed.calls k _ _ t257 t260 _ ?side1 ?side2 A8.out).mono ?_); (case side1 => exact se HO259); (case side2 => exact (Kd.R_reads' HO259.out).2.1); rintro e w19 ⟨rfl, hb⟩; refine ⟨_, rfl, ?_⟩; replace HO255 := Aside0.mk (Kd.R_below (ra (h := HO255.out)) hb); replace HO259 := Aside0.mk (Kd.R_below (ra (h := HO259.out)) hb); replace HB := bs hb; (try clear hb); (try clear hb2); (try clear hk); (try clear hi)) | ((with_reducible refine gate_callee (f := 17) rfl ?_); refine gl (some 24) Tryd.func17 #[.slice A0 l0.length c0] ?_; (with_reducible refine (laws_toStepS.calls k _ _ l0 t261 _ ?side1 ?side2 A10.out).mono ?_); (case side1 => exact sd HR0); (case side2 => exact HC0.out); rintro e w20 ⟨v262, rfl, ho0, hb⟩; refine ⟨_, rfl, ?_⟩; have HO263 := Aside0.mk (Kd.R_lower (Kd.R_new' (Kd.R_new' ho0 (Kd.R_lt (ra (h := HO255.out)))) (Kd.R_lt (ra (h := HO259.out)))) (below_size bw)); replace HO255 := Aside0.mk (Kd.R_elder' (ra (h := HO255.out)) (Kd.R_base ho0) hb); replace HO259 := Aside0.mk (Kd.R_elder' (ra (h := HO259.out)) (Kd.R_base ho0) hb); replace HB := bs hb; (try clear hb); (try clear hb2); (try clear hk); (try clear hi); (try clear ho0); obtain ⟨Ao21, co21, eo21⟩ := Kd.R_slice HO263.out; subst eo21) | ((with_reducible refine gate_callee (f := 19) rfl ?_); refine gl (some 25) Tryd.func19 #[.slice Ao18 t257.length co18, .slice Ao21 t261.length co21] ?_; (with_reducible refine (laws_eqStepS.calls k _ _ t257 _ _ t261 true _ ?side1 ?side2 ?side3 ?side4 A11.out).mono ?_); (case side1 => exact se HO259); (case side2 => exact (Kd.R_reads' HO259.out).2.1); (case side3 => exact se HO263); (case side4 => exact (Kd.R_reads' HO263.out).2.1); rintro e w22 ⟨rfl, hb⟩; refine ⟨_, rfl, ?_⟩; replace HO255 := Aside0.mk (Kd.R_below (ra (h := HO255.out)) hb); replace HO259 := Aside0.mk (Kd.R_below (ra (h := HO259.out)) hb); replace HO263 := Aside0.mk (Kd.R_below (ra (h := HO263.out)) hb); replace HB := bs hb; (try clear hb); (try clear hb2); (try clear hk); (try clear hi)))
        go_ret
        exact ⟨er, bw⟩
      · replace c12 := Bool.eq_false_iff.mpr c12
        subst c12
        rw [if_neg nf] at H
        obtain rfl := Option.some.inj H
        go_enter Tryd.func8, Tryd.ntmps8
        go_wp2_with (first | ((with_reducible refine gate_callee (f := 15) rfl ?_); refine gl (some 9) Tryd.func15 #[.slice A0 l0.length c0, .int .i64 1048576] ?_; (with_reducible refine (laws_szStepS.calls k _ _ l0 1048576 t252 _ ?side1 ?side2 A2.out).mono ?_); (case side1 => repeat (first | exact HR0.out | (with_reducible refine Kd.C_alloc ?_ _) | (with_reducible refine Kd.C_drewN ?_ _) | (with_reducible refine Kd.C_drew ?_))); (case side2 => exact HC0.out); rintro e w23 ⟨rfl, hb⟩; refine ⟨_, rfl, ?_⟩; replace HB := bs hb; (try clear hb); (try clear hb2); (try clear hk); (try clear hi)) | ((with_reducible refine gate_callee (f := 17) rfl ?_); refine gl (some 13) Tryd.func17 #[.slice A0 l0.length c0] ?_; (with_reducible refine (laws_toStepS.calls k _ _ l0 t253 _ ?side1 ?side2 A5.out).mono ?_); (case side1 => exact sd HR0); (case side2 => exact HC0.out); rintro e w24 ⟨v254, rfl, ho0, hb⟩; refine ⟨_, rfl, ?_⟩; have HO255 := Aside0.mk (Kd.R_lower ho0 (below_size bw)); replace HB := bs hb; (try clear hb); (try clear hb2); (try clear hk); (try clear hi); (try clear ho0); obtain ⟨Ao25, co25, eo25⟩ := Kd.R_slice HO255.out; subst eo25) | ((with_reducible refine gate_callee (f := 35) rfl ?_); refine gl (some 14) Tryd.func35 #[.slice Ao25 t253.length co25] ?_; (with_reducible refine (spec_FirstUnnamed.calls k _ _ t253 t256 _ ?side1 ?side2 A6.out).mono ?_); (case side1 => exact se HO255); (case side2 => exact (Kd.R_reads' HO255.out).2.1); rintro e w26 ⟨rfl, hb⟩; refine ⟨_, rfl, ?_⟩; replace HO255 := Aside0.mk (Kd.R_below (ra (h := HO255.out)) hb); replace HB := bs hb; (try clear hb); (try clear hb2); (try clear hk); (try clear hi)) | ((with_reducible refine gate_callee (f := 17) rfl ?_); refine gl (some 16) Tryd.func17 #[.slice A0 l0.length c0] ?_; (with_reducible refine (laws_toStepS.calls k _ _ l0 t257 _ ?side1 ?side2 A7.out).mono ?_); (case side1 => exact sd HR0); (case side2 => exact HC0.out); rintro e w27 ⟨v258, rfl, ho0, hb⟩; refine ⟨_, rfl, ?_⟩; have HO259 := Aside0.mk (Kd.R_lower (Kd.R_new' ho0 (Kd.R_lt (ra (h := HO255.out)))) (below_size bw)); replace HO255 := Aside0.mk (Kd.R_elder' (ra (h := HO255.out)) (Kd.R_base ho0) hb); replace HB := bs hb; (try clear hb); (try clear hb2); (try clear hk); (try clear hi); (try clear ho0); obtain ⟨Ao28, co28, eo28⟩ := Kd.R_slice HO259.out; subst eo28) | ((with_reducible refine gate_callee (f := 34) rfl ?_); refine gl (some 18) Tryd.func34 #[.slice Ao28 t257.length co28] ?_; (with_reducible refine (impl_FirstUnnamed.calls k _ _ t257 t260 _ ?side1 ?side2 A8.out).mono ?_); (case side1 => exact se HO259); (case side2 => exact (Kd.R_reads' HO259.out).2.1); rintro e w29 ⟨rfl, hb⟩; refine ⟨_, rfl, ?_⟩; replace HO255 := Aside0.mk (Kd.R_below (ra (h := HO255.out)) hb); replace HO259 := Aside0.mk (Kd.R_below (ra (h := HO259.out)) hb); replace HB := bs hb; (try clear hb); (try clear hb2); (try clear hk); (try clear hi)) | ((with_reducible refine gate_callee (f := 17) rfl ?_); refine gl (some 24) Tryd.func17 #[.slice A0 l0.length c0] ?_; (with_reducible refine (laws_toStepS.calls k _ _ l0 t261 _ ?side1 ?side2 A10.out).mono ?_); (case side1 => exact sd HR0); (case side2 => exact HC0.out); rintro e w30 ⟨v262, rfl, ho0, hb⟩; refine ⟨_, rfl, ?_⟩; have HO263 := Aside0.mk (Kd.R_lower (Kd.R_new' (Kd.R_new' ho0 (Kd.R_lt (ra (h := HO255.out)))) (Kd.R_lt (ra (h := HO259.out)))) (below_size bw)); replace HO255 := Aside0.mk (Kd.R_elder' (ra (h := HO255.out)) (Kd.R_base ho0) hb); replace HO259 := Aside0.mk (Kd.R_elder' (ra (h := HO259.out)) (Kd.R_base ho0) hb); replace HB := bs hb; (try clear hb); (try clear hb2); (try clear hk); (try clear hi); (try clear ho0); obtain ⟨Ao31, co31, eo31⟩ := Kd.R_slice HO263.out; subst eo31) | ((with_reducible refine gate_callee (f := 19) rfl ?_); refine gl (some 25) Tryd.func19 #[.slice Ao28 t257.length co28, .slice Ao31 t261.length co31] ?_; (with_reducible refine (laws_eqStepS.calls k _ _ t257 _ _ t261 false _ ?side1 ?side2 ?side3 ?side4 A11.out).mono ?_); (case side1 => exact se HO259); (case side2 => exact (Kd.R_reads' HO259.out).2.1); (case side3 => exact se HO263); (case side4 => exact (Kd.R_reads' HO263.out).2.1); rintro e w32 ⟨rfl, hb⟩; refine ⟨_, rfl, ?_⟩; replace HO255 := Aside0.mk (Kd.R_below (ra (h := HO255.out)) hb); replace HO259 := Aside0.mk (Kd.R_below (ra (h := HO259.out)) hb); replace HO263 := Aside0.mk (Kd.R_below (ra (h := HO263.out)) hb); replace HB := bs hb; (try clear hb); (try clear hb2); (try clear hk); (try clear hi)))
        go_ret
        exact ⟨er, bw⟩
    · rw [if_neg c9] at H
      have c9b0 : (t260 == t256) = false := beq_eq_false_iff_ne.mpr c9
      have c9b1 : (t260 != t256) = true := bne_iff_ne.mpr c9
      obtain rfl := Option.some.inj H
      go_enter Tryd.func8, Tryd.ntmps8
      go_wp2_with (first | ((with_reducible refine gate_callee (f := 15) rfl ?_); refine gl (some 9) Tryd.func15 #[.slice A0 l0.length c0, .int .i64 1048576] ?_; (with_reducible refine (laws_szStepS.calls k _ _ l0 1048576 t252 _ ?side1 ?side2 A2.out).mono ?_); (case side1 => repeat (first | exact HR0.out | (with_reducible refine Kd.C_alloc ?_ _) | (with_reducible refine Kd.C_drewN ?_ _) | (with_reducible refine Kd.C_drew ?_))); (case side2 => exact HC0.out); rintro e w33 ⟨rfl, hb⟩; refine ⟨_, rfl, ?_⟩; replace HB := bs hb; (try clear hb); (try clear hb2); (try clear hk); (try clear hi)) | ((with_reducible refine gate_callee (f := 17) rfl ?_); refine gl (some 13) Tryd.func17 #[.slice A0 l0.length c0] ?_; (with_reducible refine (laws_toStepS.calls k _ _ l0 t253 _ ?side1 ?side2 A5.out).mono ?_); (case side1 => exact sd HR0); (case side2 => exact HC0.out); rintro e w34 ⟨v254, rfl, ho0, hb⟩; refine ⟨_, rfl, ?_⟩; have HO255 := Aside0.mk (Kd.R_lower ho0 (below_size bw)); replace HB := bs hb; (try clear hb); (try clear hb2); (try clear hk); (try clear hi); (try clear ho0); obtain ⟨Ao35, co35, eo35⟩ := Kd.R_slice HO255.out; subst eo35) | ((with_reducible refine gate_callee (f := 35) rfl ?_); refine gl (some 14) Tryd.func35 #[.slice Ao35 t253.length co35] ?_; (with_reducible refine (spec_FirstUnnamed.calls k _ _ t253 t256 _ ?side1 ?side2 A6.out).mono ?_); (case side1 => exact se HO255); (case side2 => exact (Kd.R_reads' HO255.out).2.1); rintro e w36 ⟨rfl, hb⟩; refine ⟨_, rfl, ?_⟩; replace HO255 := Aside0.mk (Kd.R_below (ra (h := HO255.out)) hb); replace HB := bs hb; (try clear hb); (try clear hb2); (try clear hk); (try clear hi)) | ((with_reducible refine gate_callee (f := 17) rfl ?_); refine gl (some 16) Tryd.func17 #[.slice A0 l0.length c0] ?_; (with_reducible refine (laws_toStepS.calls k _ _ l0 t257 _ ?side1 ?side2 A7.out).mono ?_); (case side1 => exact sd HR0); (case side2 => exact HC0.out); rintro e w37 ⟨v258, rfl, ho0, hb⟩; refine ⟨_, rfl, ?_⟩; have HO259 := Aside0.mk (Kd.R_lower (Kd.R_new' ho0 (Kd.R_lt (ra (h := HO255.out)))) (below_size bw)); replace HO255 := Aside0.mk (Kd.R_elder' (ra (h := HO255.out)) (Kd.R_base ho0) hb); replace HB := bs hb; (try clear hb); (try clear hb2); (try clear hk); (try clear hi); (try clear ho0); obtain ⟨Ao38, co38, eo38⟩ := Kd.R_slice HO259.out; subst eo38) | ((with_reducible refine gate_callee (f := 34) rfl ?_); refine gl (some 18) Tryd.func34 #[.slice Ao38 t257.length co38] ?_; (with_reducible refine (impl_FirstUnnamed.calls k _ _ t257 t260 _ ?side1 ?side2 A8.out).mono ?_); (case side1 => exact se HO259); (case side2 => exact (Kd.R_reads' HO259.out).2.1); rintro e w39 ⟨rfl, hb⟩; refine ⟨_, rfl, ?_⟩; replace HO255 := Aside0.mk (Kd.R_below (ra (h := HO255.out)) hb); replace HO259 := Aside0.mk (Kd.R_below (ra (h := HO259.out)) hb); replace HB := bs hb; (try clear hb); (try clear hb2); (try clear hk); (try clear hi)))
      go_ret
      exact ⟨er, bw⟩

end Go.Proofs.YteadienaeapaeaaDoor.PW
