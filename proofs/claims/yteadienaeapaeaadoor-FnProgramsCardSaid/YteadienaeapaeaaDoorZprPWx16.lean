-- Made by a program of this session (myprint.py) out of the translation.
import Derived.Test.YteadienaeapaeaaDoorZprPWx0
import Derived.Test.YteadienaeapaeaaDoorZprPWx11
import Derived.Test.YteadienaeapaeaaDoorZprPWx14
import Derived.Test.YteadienaeapaeaaDoorZprPWx15
import Derived.Test.YteadienaeapaeaaDoorZprShort
namespace Go.Proofs.YteadienaeapaeaaDoor.PW
open Go.Proofs.YteadienaeapaeaaDoor.Short
open Go.Proofs.YteadienaeapaeaaDoor.Dyn
open Go.RowKit Go.Proofs.YteadienaeapaeaaDoorW.PrintWords Go.Proofs.YteadienaeapaeaaDoorW.PrintLast Go.Proofs.YteadienaeapaeaaDoorW.PrintMore
attribute [local go_sem] max2_int min2_int max_two min_two max_three min_three max_four min_four   -- for this text's walks alone
set_option linter.unusedVariables false
set_option linter.unusedSimpArgs false

/-! ### impl_FirstUnnamed: function 34 -/
mutual
def impl_FirstUnnamed.l0 : Nat → List (S34) → List (S34) → Int → Int → Option (Int)
  | 0, _, _, _, _ => none
  | k + 1, x0, x8, x9, x10 => if x10 < x9 then (if 0 ≤ x10 then (if x10 < (x8.length : Int) then ((impl_Step_isFold.f ((rd_T34 x8 x10).f0) ((rd_T34 x8 x10).f1) ((rd_T34 x8 x10).f2.f0) ((rd_T34 x8 x10).f2.f1.f0) ((rd_T34 x8 x10).f2.f1.f1) ((rd_T34 x8 x10).f2.f1.f2) ((rd_T34 x8 x10).f3) ((rd_T34 x8 x10).f4) ((rd_T34 x8 x10).f5)).bind fun t238 => (if t238 = true then (if ((rd_T34 x8 x10).f1).toList = ([] : List UInt8) then (impl_FirstUnnamed.j1 k x0 x10 x8 x9 x10 false) else (if x10 ≤ (x0.length : Int) then ((impl_NamesOf.f k (x0.take (x10 : Int).toNat)).bind fun t243 => ((slices_Contains_string_string.f k t243 ((rd_T34 x8 x10).f1)).bind fun t246 => (impl_FirstUnnamed.j1 k x0 x10 x8 x9 x10 (!t246)))) else (none))) else (impl_FirstUnnamed.j1 k x0 x10 x8 x9 x10 false))) else (none)) else (none)) else (some (-1))
def impl_FirstUnnamed.j1 : Nat → List (S34) → Int → List (S34) → Int → Int → Bool → Option (Int)
  | 0, _, _, _, _, _, _ => none
  | k + 1, x0, x3, x8, x9, x10, x31 => if x31 = true then (some x3) else (impl_FirstUnnamed.l0 k x0 x8 x9 (wrap64 (x10 + 1)))
end
def impl_FirstUnnamed.f (k : Nat) (l0 : List (S34)) : Option (Int) := (impl_ValidProgram.f k l0).bind fun t235 => (if t235 = true then (impl_FirstUnnamed.l0 k l0 l0 (l0.length : Int) 0) else (some (-1)))
theorem impl_FirstUnnamed.mono_l : ∀ k, (∀ y0 y1 y2 y3, LeO (impl_FirstUnnamed.l0 k y0 y1 y2 y3) (impl_FirstUnnamed.l0 (k + 1) y0 y1 y2 y3)) ∧ (∀ y0 y1 y2 y3 y4 y5, LeO (impl_FirstUnnamed.j1 k y0 y1 y2 y3 y4 y5) (impl_FirstUnnamed.j1 (k + 1) y0 y1 y2 y3 y4 y5))
  | 0 => ⟨fun _ _ _ _ r h => by simp [impl_FirstUnnamed.l0] at h, fun _ _ _ _ _ _ r h => by simp [impl_FirstUnnamed.j1] at h⟩
  | k + 1 => by
    obtain ⟨ih0, ih1⟩ := impl_FirstUnnamed.mono_l k
    refine ⟨?_, ?_⟩
    · intro y0 y1 y2 y3
      unfold impl_FirstUnnamed.l0
      repeat' first
      | (with_reducible exact ih0 _ _ _ _)
      | (with_reducible exact ih1 _ _ _ _ _ _)
      | (with_reducible exact impl_NamesOf.mono _ _)
      | (with_reducible exact impl_ValidProgram.mono _ _)
      | (with_reducible exact slices_Contains_string_string.mono _ _ _)
      | (with_reducible exact LeO.refl _)
      | (with_reducible exact LeO.none _)
      | (with_reducible refine LeO.ite ?_ ?_)
      | (with_reducible refine LeO.bind ?_ (fun _ => ?_))
      | exact ih0 _ _ _ _
      | exact ih1 _ _ _ _ _ _
      | exact impl_NamesOf.mono _ _
      | exact impl_ValidProgram.mono _ _
      | exact slices_Contains_string_string.mono _ _ _
      | exact LeO.none _
      | refine LeO.ite ?_ ?_
      | refine LeO.bind ?_ (fun _ => ?_)
    · intro y0 y1 y2 y3 y4 y5
      unfold impl_FirstUnnamed.j1
      repeat' first
      | (with_reducible exact ih0 _ _ _ _)
      | (with_reducible exact ih1 _ _ _ _ _ _)
      | (with_reducible exact impl_NamesOf.mono _ _)
      | (with_reducible exact impl_ValidProgram.mono _ _)
      | (with_reducible exact slices_Contains_string_string.mono _ _ _)
      | (with_reducible exact LeO.refl _)
      | (with_reducible exact LeO.none _)
      | (with_reducible refine LeO.ite ?_ ?_)
      | (with_reducible refine LeO.bind ?_ (fun _ => ?_))
      | exact ih0 _ _ _ _
      | exact ih1 _ _ _ _ _ _
      | exact impl_NamesOf.mono _ _
      | exact impl_ValidProgram.mono _ _
      | exact slices_Contains_string_string.mono _ _ _
      | exact LeO.none _
      | refine LeO.ite ?_ ?_
      | refine LeO.bind ?_ (fun _ => ?_)
theorem impl_FirstUnnamed.mono : ∀ a0 k, LeO (impl_FirstUnnamed.f k a0) (impl_FirstUnnamed.f (k + 1) a0) := by
  intro a0 k
  obtain ⟨ih0, ih1⟩ := impl_FirstUnnamed.mono_l k
  unfold impl_FirstUnnamed.f
  repeat' first
      | (with_reducible exact ih0 _ _ _ _)
      | (with_reducible exact ih1 _ _ _ _ _ _)
      | (with_reducible exact impl_NamesOf.mono _ _)
      | (with_reducible exact impl_ValidProgram.mono _ _)
      | (with_reducible exact slices_Contains_string_string.mono _ _ _)
      | (with_reducible exact LeO.refl _)
      | (with_reducible exact LeO.none _)
      | (with_reducible refine LeO.ite ?_ ?_)
      | (with_reducible refine LeO.bind ?_ (fun _ => ?_))
      | exact ih0 _ _ _ _
      | exact ih1 _ _ _ _ _ _
      | exact impl_NamesOf.mono _ _
      | exact impl_ValidProgram.mono _ _
      | exact slices_Contains_string_string.mono _ _ _
      | exact LeO.none _
      | refine LeO.ite ?_ ?_
      | refine LeO.bind ?_ (fun _ => ?_)
def impl_FirstUnnamed.T6 : Bool × List (List Nat × List Nat) := (true, [([], []), ([0], [0]), ([1, 1], [1]), ([2], [2]), ([3, 2], [2, 3]), ([4, 2], [2, 4]), ([2, 5], [2, 5]), ([6, 2], [6]), ([7], [7]), ([7], [7]), ([8, 9, 7], [7, 8, 9]), ([10, 7, 7], [7, 10]), ([7], [7]), ([12, 7], [7, 12]), ([11, 13, 11, 7], [7, 11, 13]), ([14, 7], [7, 14]), ([7, 15], [7, 15])])
def impl_FirstUnnamed.B6 : List Nat := [0, 1, 3, 7, 15, 31, 63, 127, 255, 255, 1023, 2047, 255, 4351, 16383, 32767, 65535]
theorem impl_FirstUnnamed.tab6 : rtab .any (opsOf Tryd.f34 6) = impl_FirstUnnamed.T6 := by kernel_rfl
theorem impl_FirstUnnamed.bits6 : waitsOk impl_FirstUnnamed.T6.2 impl_FirstUnnamed.B6 = true := by kernel_rfl
set_option maxHeartbeats 8000000 in
set_option maxRecDepth 100000 in
theorem impl_FirstUnnamed.calls (k : Nat) (A0 : Option Addr) (c0 : Nat) (l0 : List (S34)) (r : Int) (w : World) (hr0 : Kd.C k34 w A0 l0.length l0) (hc0 : l0.length ≤ c0) (h : impl_FirstUnnamed.f k l0 = some r) :
    Calls Tryd.prog 34 #[.slice A0 l0.length c0] w fun e w' => e = .returned (.int .i64 r) ∧ Below w.heap.size w w' := by
  have hu34 := Tryd.underlying34
  have HR0 := Aside0.mk hr0
  have HC0 := Aside0.mk hc0
  clear hr0 hc0
  have HB := Aside0.mk (Below.refl w.heap.size w)
  have H : ((impl_ValidProgram.f k l0).bind fun t235 => (if t235 = true then (impl_FirstUnnamed.l0 k l0 l0 (l0.length : Int) 0) else (some (-1)))) = some r := h
  clear h
  replace H := Option.bind_eq_some_iff.mp H
  obtain ⟨t235, A20, H⟩ := H
  replace H : (if t235 = true then (impl_FirstUnnamed.l0 k l0 l0 (l0.length : Int) 0) else (some (-1))) = some r := H
  have A2 := Aside0.mk A20
  clear A20
  by_cases c3 : t235 = true
  · subst c3
    rw [if_pos rfl] at H
    have H' := Aside0.mk H
    clear H
    go_enter Tryd.func34, Tryd.ntmps34
    go_wp2_with (first | ((with_reducible refine gate_callee (f := 18) rfl ?_); refine gl (some 6) Tryd.func18 #[.slice A0 l0.length c0] ?_; (with_reducible refine (impl_ValidProgram.calls k _ _ l0 true _ ?side1 ?side2 A2.out).mono ?_); (case side1 => repeat (first | exact HR0.out | (with_reducible refine Kd.C_alloc ?_ _) | (with_reducible refine Kd.C_drewN ?_ _) | (with_reducible refine Kd.C_drew ?_))); (case side2 => exact HC0.out); rintro e w4 ⟨rfl, hb⟩; refine ⟨_, rfl, ?_⟩; replace HB := bs hb; (try clear hb); (try clear hb2); (try clear hk); (try clear hi)))
    go_loopg [10] k (fun kq v10 w' => ∃ (x10_1 : Int), v10 = .int .i64 x10_1 ∧ Aside0 (impl_FirstUnnamed.l0 kq l0 l0 (l0.length : Int) x10_1 = some r) ∧ Aside0 (kq ≤ k) ∧ Aside0 (Below w.heap.size w w'))
    case atStart => exact ⟨(0), (by first | rfl | (simp; done) | (simp [*]; done)), H', ⟨Nat.le_refl _⟩, ⟨bw⟩⟩
    case round =>
      clear H'
      try clear c1
      try clear p2
      try clear c3
      obtain ⟨x10_1, rfl, HA, HK1, HB⟩ := hrel
      cases gk with
      | zero => exact absurd HA.out (by simp [impl_FirstUnnamed.l0])
      | succ k1 =>
        have H := HA.out
        clear HA
        simp only [impl_FirstUnnamed.l0] at H
        by_cases c5 : x10_1 < (l0.length : Int)
        · rw [if_pos c5] at H
          have c5b0 : decide (x10_1 < (l0.length : Int)) = true := decide_eq_true c5
          clear c5
          by_cases c6 : 0 ≤ x10_1
          · rw [if_pos c6] at H
            have c6b0 : decide (0 ≤ x10_1) = true := decide_eq_true c6
            clear c6
            by_cases c7 : x10_1 < (l0.length : Int)
            · rw [if_pos c7] at H
              have c7b0 : decide (x10_1 < (l0.length : Int)) = true := decide_eq_true c7
              clear c7
              have HC8 := Aside0.mk H
              clear H
              have p236 : 0 ≤ (x10_1 : Int) := od
              have q236 : x10_1 < (l0.length : Int) := od
              obtain ⟨ad236, e236, hx236_0, hx236_1, hx236_2, hx236_3, hx236_4, hx236_5, hx236_6, hx236_7, hx236_8⟩ := at_T34 HR0.out x10_1 p236 q236
              cases e236
              replace hx236_0 := bc hx236_0
              replace hx236_1 := bc hx236_1
              replace hx236_2 := bc hx236_2
              replace hx236_3 := bc hx236_3
              replace hx236_4 := bc hx236_4
              replace hx236_5 := bc hx236_5
              replace hx236_6 := bc hx236_6
              replace hx236_7 := bc hx236_7
              replace hx236_8 := bc hx236_8
              replace p236 := eq_true p236
              replace q236 := eq_true q236
              go_upto_region 6 with (first | ((with_reducible refine gate_dst (N := 4) rfl ?_); refine bx #[.int .i64 0, .string (⟨#[]⟩ : ByteArray), .int .i64 0, .int .i64 0, .int .i64 0, .int .i64 0, .int .i64 0, .int .i64 0, .bool false] 34 ?_; intro gb237 hg w9 hbox hb; have BK237 := Aside0.mk hbox; have GW237 := bg hg; have GE237 := bg hg; replace HB := bs hb; clear hb hbox hg; obtain ⟨z10_0, z10_1, z10_2, z10_3, z10_4, z10_5, z10_6, z10_7, z10_8, y10_0, y10_1, y10_2, y10_3, y10_4, y10_5, y10_6, y10_7, y10_8⟩ := bq9 BK237))
              (try simp only [Act.put, List.setIfInBounds_toArray, List.set_cons_zero, List.set_cons_succ])
              go_cut [31] (fun v31 wc => ∃ (kq : Nat) (x31_7 : Bool), v31 = .bool x31_7 ∧ Aside0 (impl_FirstUnnamed.j1 kq l0 x10_1 l0 (l0.length : Int) x10_1 x31_7 = some r) ∧ Aside0 (kq ≤ k1) ∧ Aside0 (wc.heap[gb237]? = some (.cells #[.int .i64 ((rd_T34 l0 x10_1).f0), .string ((rd_T34 l0 x10_1).f1), .int .i64 ((rd_T34 l0 x10_1).f2.f0), .int .i64 ((rd_T34 l0 x10_1).f2.f1.f0), .int .i64 ((rd_T34 l0 x10_1).f2.f1.f1), .int .i64 ((rd_T34 l0 x10_1).f2.f1.f2), .int .i64 ((rd_T34 l0 x10_1).f3), .int .i64 ((rd_T34 l0 x10_1).f4), .bool ((rd_T34 l0 x10_1).f5)] 34 (0, 0))) ∧ Aside0 (Below w.heap.size w wc))
              case first =>
                have H := HC8.out
                clear HC8
                replace H := Option.bind_eq_some_iff.mp H
                obtain ⟨t238, A110, H⟩ := H
                replace H : (if t238 = true then (if ((rd_T34 l0 x10_1).f1).toList = ([] : List UInt8) then (impl_FirstUnnamed.j1 k1 l0 x10_1 l0 (l0.length : Int) x10_1 false) else (if x10_1 ≤ (l0.length : Int) then ((impl_NamesOf.f k1 (l0.take (x10_1 : Int).toNat)).bind fun t243 => ((slices_Contains_string_string.f k1 t243 ((rd_T34 l0 x10_1).f1)).bind fun t246 => (impl_FirstUnnamed.j1 k1 l0 x10_1 l0 (l0.length : Int) x10_1 (!t246)))) else (none))) else (impl_FirstUnnamed.j1 k1 l0 x10_1 l0 (l0.length : Int) x10_1 false)) = some r := H
                have A11 := Aside0.mk A110
                clear A110
                by_cases c12 : t238 = true
                · subst c12
                  rw [if_pos rfl] at H
                  by_cases c13 : ((rd_T34 l0 x10_1).f1).toList = ([] : List UInt8)
                  · rw [if_pos c13] at H
                    have c13b0 : (((rd_T34 l0 x10_1).f1).toList == ([] : List UInt8)) = true := beq_iff_eq.mpr c13
                    have c13b1 : (((rd_T34 l0 x10_1).f1).toList != ([] : List UInt8)) = false := bne_eq_false_iff_eq.mpr c13
                    clear c13
                    (first | rw [c13b0] | (simp only [i64_w, i32_w]; rw [c13b0]) | skip)
                    have H' := Aside0.mk H
                    clear H
                    try go_wp2
                    have n0_ : Aside0 ((((((((((w9.setCell ⟨gb237, 0, none⟩ (.int .i64 ((rd_T34 l0 x10_1).f0))).setCell ⟨gb237, 1, none⟩ (.string ((rd_T34 l0 x10_1).f1))).setCell ⟨gb237, 2, none⟩ (.int .i64 ((rd_T34 l0 x10_1).f2.f0))).setCell ⟨gb237, 3, none⟩ (.int .i64 ((rd_T34 l0 x10_1).f2.f1.f0))).setCell ⟨gb237, 4, none⟩ (.int .i64 ((rd_T34 l0 x10_1).f2.f1.f1))).setCell ⟨gb237, 5, none⟩ (.int .i64 ((rd_T34 l0 x10_1).f2.f1.f2))).setCell ⟨gb237, 6, none⟩ (.int .i64 ((rd_T34 l0 x10_1).f3))).setCell ⟨gb237, 7, none⟩ (.int .i64 ((rd_T34 l0 x10_1).f4))).setCell ⟨gb237, 8, none⟩ (.bool ((rd_T34 l0 x10_1).f5))).heap[gb237]? = some (.cells #[.int .i64 ((rd_T34 l0 x10_1).f0), .string ((rd_T34 l0 x10_1).f1), .int .i64 ((rd_T34 l0 x10_1).f2.f0), .int .i64 ((rd_T34 l0 x10_1).f2.f1.f0), .int .i64 ((rd_T34 l0 x10_1).f2.f1.f1), .int .i64 ((rd_T34 l0 x10_1).f2.f1.f2), .int .i64 ((rd_T34 l0 x10_1).f3), .int .i64 ((rd_T34 l0 x10_1).f4), .bool ((rd_T34 l0 x10_1).f5)] 34 (0, 0))) := ⟨by refine bk (h := ?_); refine blk_put (cs := #[.int .i64 ((rd_T34 l0 x10_1).f0), .string ((rd_T34 l0 x10_1).f1), .int .i64 ((rd_T34 l0 x10_1).f2.f0), .int .i64 ((rd_T34 l0 x10_1).f2.f1.f0), .int .i64 ((rd_T34 l0 x10_1).f2.f1.f1), .int .i64 ((rd_T34 l0 x10_1).f2.f1.f2), .int .i64 ((rd_T34 l0 x10_1).f3), .int .i64 ((rd_T34 l0 x10_1).f4), .bool false]) ?_ 8 _ rfl; refine bk (h := ?_); refine blk_put (cs := #[.int .i64 ((rd_T34 l0 x10_1).f0), .string ((rd_T34 l0 x10_1).f1), .int .i64 ((rd_T34 l0 x10_1).f2.f0), .int .i64 ((rd_T34 l0 x10_1).f2.f1.f0), .int .i64 ((rd_T34 l0 x10_1).f2.f1.f1), .int .i64 ((rd_T34 l0 x10_1).f2.f1.f2), .int .i64 ((rd_T34 l0 x10_1).f3), .int .i64 0, .bool false]) ?_ 7 _ rfl; refine bk (h := ?_); refine blk_put (cs := #[.int .i64 ((rd_T34 l0 x10_1).f0), .string ((rd_T34 l0 x10_1).f1), .int .i64 ((rd_T34 l0 x10_1).f2.f0), .int .i64 ((rd_T34 l0 x10_1).f2.f1.f0), .int .i64 ((rd_T34 l0 x10_1).f2.f1.f1), .int .i64 ((rd_T34 l0 x10_1).f2.f1.f2), .int .i64 0, .int .i64 0, .bool false]) ?_ 6 _ rfl; refine bk (h := ?_); refine blk_put (cs := #[.int .i64 ((rd_T34 l0 x10_1).f0), .string ((rd_T34 l0 x10_1).f1), .int .i64 ((rd_T34 l0 x10_1).f2.f0), .int .i64 ((rd_T34 l0 x10_1).f2.f1.f0), .int .i64 ((rd_T34 l0 x10_1).f2.f1.f1), .int .i64 0, .int .i64 0, .int .i64 0, .bool false]) ?_ 5 _ rfl; refine bk (h := ?_); refine blk_put (cs := #[.int .i64 ((rd_T34 l0 x10_1).f0), .string ((rd_T34 l0 x10_1).f1), .int .i64 ((rd_T34 l0 x10_1).f2.f0), .int .i64 ((rd_T34 l0 x10_1).f2.f1.f0), .int .i64 0, .int .i64 0, .int .i64 0, .int .i64 0, .bool false]) ?_ 4 _ rfl; refine bk (h := ?_); refine blk_put (cs := #[.int .i64 ((rd_T34 l0 x10_1).f0), .string ((rd_T34 l0 x10_1).f1), .int .i64 ((rd_T34 l0 x10_1).f2.f0), .int .i64 0, .int .i64 0, .int .i64 0, .int .i64 0, .int .i64 0, .bool false]) ?_ 3 _ rfl; refine bk (h := ?_); refine blk_put (cs := #[.int .i64 ((rd_T34 l0 x10_1).f0), .string ((rd_T34 l0 x10_1).f1), .int .i64 0, .int .i64 0, .int .i64 0, .int .i64 0, .int .i64 0, .int .i64 0, .bool false]) ?_ 2 _ rfl; refine bk (h := ?_); refine blk_put (cs := #[.int .i64 ((rd_T34 l0 x10_1).f0), .string (⟨#[]⟩ : ByteArray), .int .i64 0, .int .i64 0, .int .i64 0, .int .i64 0, .int .i64 0, .int .i64 0, .bool false]) ?_ 1 _ rfl; refine bk (h := ?_); refine blk_put (cs := #[.int .i64 0, .string (⟨#[]⟩ : ByteArray), .int .i64 0, .int .i64 0, .int .i64 0, .int .i64 0, .int .i64 0, .int .i64 0, .bool false]) ?_ 0 _ rfl; refine bk (h := ?_); exact BK237.out⟩
                    have n1_ : Aside0 (Below w.heap.size w (((((((((w9.setCell ⟨gb237, 0, none⟩ (.int .i64 ((rd_T34 l0 x10_1).f0))).setCell ⟨gb237, 1, none⟩ (.string ((rd_T34 l0 x10_1).f1))).setCell ⟨gb237, 2, none⟩ (.int .i64 ((rd_T34 l0 x10_1).f2.f0))).setCell ⟨gb237, 3, none⟩ (.int .i64 ((rd_T34 l0 x10_1).f2.f1.f0))).setCell ⟨gb237, 4, none⟩ (.int .i64 ((rd_T34 l0 x10_1).f2.f1.f1))).setCell ⟨gb237, 5, none⟩ (.int .i64 ((rd_T34 l0 x10_1).f2.f1.f2))).setCell ⟨gb237, 6, none⟩ (.int .i64 ((rd_T34 l0 x10_1).f3))).setCell ⟨gb237, 7, none⟩ (.int .i64 ((rd_T34 l0 x10_1).f4))).setCell ⟨gb237, 8, none⟩ (.bool ((rd_T34 l0 x10_1).f5)))) := ⟨bw⟩
                    (try clear BK237)
                    (try clear HB)
                    generalize (((((((((w9.setCell ⟨gb237, 0, none⟩ (.int .i64 ((rd_T34 l0 x10_1).f0))).setCell ⟨gb237, 1, none⟩ (.string ((rd_T34 l0 x10_1).f1))).setCell ⟨gb237, 2, none⟩ (.int .i64 ((rd_T34 l0 x10_1).f2.f0))).setCell ⟨gb237, 3, none⟩ (.int .i64 ((rd_T34 l0 x10_1).f2.f1.f0))).setCell ⟨gb237, 4, none⟩ (.int .i64 ((rd_T34 l0 x10_1).f2.f1.f1))).setCell ⟨gb237, 5, none⟩ (.int .i64 ((rd_T34 l0 x10_1).f2.f1.f2))).setCell ⟨gb237, 6, none⟩ (.int .i64 ((rd_T34 l0 x10_1).f3))).setCell ⟨gb237, 7, none⟩ (.int .i64 ((rd_T34 l0 x10_1).f4))).setCell ⟨gb237, 8, none⟩ (.bool ((rd_T34 l0 x10_1).f5))) = w14 at n0_ n1_ ⊢
                    have BK237 := n0_
                    have HB := n1_
                    clear n0_ n1_
                    replace BK237 := Aside0.mk (blk_drew BK237.out)
                    replace HB := Aside0.mk (below_drew1 HB.out)
                    refine start_ (n := 17) (S := fun w' => w'.cell? ⟨gb237, 0, none⟩ = some (.int .i64 ((rd_T34 l0 x10_1).f0)) ∧ w'.cell? ⟨gb237, 1, none⟩ = some (.string ((rd_T34 l0 x10_1).f1)) ∧ w'.cell? ⟨gb237, 2, none⟩ = some (.int .i64 ((rd_T34 l0 x10_1).f2.f0)) ∧ w'.cell? ⟨gb237, 3, none⟩ = some (.int .i64 ((rd_T34 l0 x10_1).f2.f1.f0)) ∧ w'.cell? ⟨gb237, 4, none⟩ = some (.int .i64 ((rd_T34 l0 x10_1).f2.f1.f1)) ∧ w'.cell? ⟨gb237, 5, none⟩ = some (.int .i64 ((rd_T34 l0 x10_1).f2.f1.f2)) ∧ w'.cell? ⟨gb237, 6, none⟩ = some (.int .i64 ((rd_T34 l0 x10_1).f3)) ∧ w'.cell? ⟨gb237, 7, none⟩ = some (.int .i64 ((rd_T34 l0 x10_1).f4)) ∧ w'.cell? ⟨gb237, 8, none⟩ = some (.bool ((rd_T34 l0 x10_1).f5))) (ds := []) #[false, false, false, false, false, false, false, false, false, false, false, false, false, false, false, false, false] (by kernel_rfl) rfl rfl ⟨(blk_cell BK237.out 0).trans rfl, (blk_cell BK237.out 1).trans rfl, (blk_cell BK237.out 2).trans rfl, (blk_cell BK237.out 3).trans rfl, (blk_cell BK237.out 4).trans rfl, (blk_cell BK237.out 5).trans rfl, (blk_cell BK237.out 6).trans rfl, (blk_cell BK237.out 7).trans rfl, (blk_cell BK237.out 8).trans rfl⟩ (fun hHeld => ?_); refine with_tabW impl_FirstUnnamed.tab6 impl_FirstUnnamed.bits6 (fun HT_ HW_ => ?_)
                    generalize w14.drew = w15 at BK237 HB hHeld ⊢
                    refine take_ (i := 0) (N := some 15) (v := ?_) (a' := ?_) #[true, false, false, false, false, false, false, false, false, false, false, false, false, false, false, false, false] rfl rfl (take_ofW HT_.out HW_.out (by kernel_rfl)) (fun _ _ _ h => h) (Or.inl ⟨by rfl, ?_⟩) hHeld ?_ ?_
                    rotate_left
                    · rintro w' ⟨s0, s1, s2, s3, s4, s5, s6, s7, s8⟩
                      go_simp
                      with_reducible rfl
                    rotate_left
                    · simp only [Act.put, List.setIfInBounds_toArray, List.set_cons_zero, List.set_cons_succ, i64_w, i32_w]
                      rfl
                    refine one_ (i := 1) (N := some 16) #[true, true, false, false, false, false, false, false, false, false, false, false, false, false, false, false, false] rfl rfl (one_of HT_.out (by kernel_rfl)) (by decide) (fun K hK => ?_)
                    refine goes_ Tryd.func59 (by kernel_rfl) rfl #[.agg #[.int .i64 ((rd_T34 l0 x10_1).f0), .string ((rd_T34 l0 x10_1).f1), .int .i64 ((rd_T34 l0 x10_1).f2.f0), .int .i64 ((rd_T34 l0 x10_1).f2.f1.f0), .int .i64 ((rd_T34 l0 x10_1).f2.f1.f1), .int .i64 ((rd_T34 l0 x10_1).f2.f1.f2), .int .i64 ((rd_T34 l0 x10_1).f3), .int .i64 ((rd_T34 l0 x10_1).f4), .bool ((rd_T34 l0 x10_1).f5)]] (by rfl) rfl rfl (by (try simp only [List.map_toArray, List.map_cons, List.map_nil]); first | done | rfl | (simp only [List.length_drop, List.length_take]; rfl)) ?_
                    with_reducible refine (impl_Step_isFold.calls ((rd_T34 l0 x10_1).f0) ((rd_T34 l0 x10_1).f1) ((rd_T34 l0 x10_1).f2.f0) ((rd_T34 l0 x10_1).f2.f1.f0) ((rd_T34 l0 x10_1).f2.f1.f1) ((rd_T34 l0 x10_1).f2.f1.f2) ((rd_T34 l0 x10_1).f3) ((rd_T34 l0 x10_1).f4) ((rd_T34 l0 x10_1).f5) true _ A11.out).mono ?_
                    rintro e w16 ⟨rfl, hb⟩
                    refine ⟨_, rfl, ?_⟩
                    replace BK237 := bb BK237 hb
                    replace HB := bs hb
                    (try clear hb)
                    (try clear hb2)
                    (try clear hk)
                    (try clear hi)
                    refine hK.out _ _ ⟨(blk_cell BK237.out 0).trans rfl, (blk_cell BK237.out 1).trans rfl, (blk_cell BK237.out 2).trans rfl, (blk_cell BK237.out 3).trans rfl, (blk_cell BK237.out 4).trans rfl, (blk_cell BK237.out 5).trans rfl, (blk_cell BK237.out 6).trans rfl, (blk_cell BK237.out 7).trans rfl, (blk_cell BK237.out 8).trans rfl⟩ (fun hHeld => ?_)
                    clear hK K
                    refine norm_ (a' := ?_) ?_ ?_
                    rotate_left
                    · show Act.put _ (some 16) _ = _
                      simp only [Act.put, List.setIfInBounds_toArray, List.set_cons_zero, List.set_cons_succ, i64_w, i32_w]
                      rfl
                    refine pure_ (i := 2) (N := some 17) (v := ?_) (a' := ?_) #[true, true, true, false, false, false, false, false, false, false, false, false, false, false, false, false, false] rfl rfl (any_of HT_.out (by kernel_rfl)) (fun _ _ _ h => h) (Or.inl ⟨by rfl, ?_⟩) ?_ ?_
                    rotate_left
                    · intro w'
                      go_simp
                      with_reducible rfl
                    rotate_left
                    · simp only [Act.put, List.setIfInBounds_toArray, List.set_cons_zero, List.set_cons_succ, i64_w, i32_w]
                      rfl
                    refine pure_ (i := 3) (N := some 18) (v := ?_) (a' := ?_) #[true, true, true, true, false, false, false, false, false, false, false, false, false, false, false, false, false] rfl rfl (any_of HT_.out (by kernel_rfl)) (fun _ _ _ h => h) (Or.inl ⟨by rfl, ?_⟩) ?_ ?_
                    rotate_left
                    · intro w'
                      go_simp
                      with_reducible rfl
                    rotate_left
                    · simp only [Act.put, List.setIfInBounds_toArray, List.set_cons_zero, List.set_cons_succ, i64_w, i32_w]
                      rfl
                    refine take_ (i := 4) (N := some 19) (v := ?_) (a' := ?_) #[true, true, true, true, true, false, false, false, false, false, false, false, false, false, false, false, false] rfl rfl (take_ofW HT_.out HW_.out (by kernel_rfl)) (fun _ _ _ h => h) (Or.inl ⟨by rfl, ?_⟩) hHeld ?_ ?_
                    rotate_left
                    · rintro w' ⟨s0, s1, s2, s3, s4, s5, s6, s7, s8⟩
                      go_simp
                      with_reducible rfl
                    rotate_left
                    · simp only [Act.put, List.setIfInBounds_toArray, List.set_cons_zero, List.set_cons_succ, i64_w, i32_w]
                      rfl
                    refine pure_ (i := 5) (N := some 20) (v := ?_) (a' := ?_) #[true, true, true, true, true, true, false, false, false, false, false, false, false, false, false, false, false] rfl rfl (any_of HT_.out (by kernel_rfl)) (fun _ _ _ h => h) (Or.inl ⟨by rfl, ?_⟩) ?_ ?_
                    rotate_left
                    · intro w'
                      go_simp
                      with_reducible rfl
                    rotate_left
                    · simp only [Act.put, List.setIfInBounds_toArray, List.set_cons_zero, List.set_cons_succ, i64_w, i32_w]
                      rfl
                    refine pure_ (i := 6) (N := some 21) (v := ?_) (a' := ?_) #[true, true, true, true, true, true, true, false, false, false, false, false, false, false, false, false, false] rfl rfl (any_of HT_.out (by kernel_rfl)) (fun _ _ _ h => h) (Or.inl ⟨by rfl, ?_⟩) ?_ ?_
                    rotate_left
                    · intro w'
                      go_simp
                      with_reducible rfl
                    rotate_left
                    · simp only [Act.put, List.setIfInBounds_toArray, List.set_cons_zero, List.set_cons_succ, i64_w, i32_w]
                      rfl
                    refine pure_ (i := 7) (N := some 22) (v := ?_) (a' := ?_) #[true, true, true, true, true, true, true, true, false, false, false, false, false, false, false, false, false] rfl rfl (any_of HT_.out (by kernel_rfl)) (fun _ _ _ h => h) (Or.inl ⟨by rfl, ?_⟩) ?_ ?_
                    rotate_left
                    · intro w'
                      go_simp
                      with_reducible rfl
                    rotate_left
                    · simp only [Act.put, List.setIfInBounds_toArray, List.set_cons_zero, List.set_cons_succ, i64_w, i32_w]
                      rfl
                    refine pure_ (i := 8) (N := some 23) (v := undef) (a' := ?_) #[true, true, true, true, true, true, true, true, true, false, false, false, false, false, false, false, false] rfl rfl (any_of HT_.out (by kernel_rfl)) (fun _ _ _ h => h) (Or.inr ⟨by rfl, rfl⟩) ?_ ?_
                    rotate_left
                    · simp only [Act.put, List.setIfInBounds_toArray, List.set_cons_zero, List.set_cons_succ, i64_w, i32_w]
                      rfl
                    refine pure_ (i := 9) (N := some 24) (v := undef) (a' := ?_) #[true, true, true, true, true, true, true, true, true, true, false, false, false, false, false, false, false] rfl rfl (any_of HT_.out (by kernel_rfl)) (fun _ _ _ h => h) (Or.inr ⟨by rfl, rfl⟩) ?_ ?_
                    rotate_left
                    · simp only [Act.put, List.setIfInBounds_toArray, List.set_cons_zero, List.set_cons_succ, i64_w, i32_w]
                      rfl
                    refine pure_ (i := 10) (N := some 25) (v := undef) (a' := ?_) #[true, true, true, true, true, true, true, true, true, true, true, false, false, false, false, false, false] rfl rfl (any_of HT_.out (by kernel_rfl)) (fun _ _ _ h => h) (Or.inr ⟨by rfl, rfl⟩) ?_ ?_
                    rotate_left
                    · simp only [Act.put, List.setIfInBounds_toArray, List.set_cons_zero, List.set_cons_succ, i64_w, i32_w]
                      rfl
                    refine pure_ (i := 11) (N := some 26) (v := undef) (a' := ?_) #[true, true, true, true, true, true, true, true, true, true, true, true, false, false, false, false, false] rfl rfl (any_of HT_.out (by kernel_rfl)) (fun _ _ _ h => h) (Or.inr ⟨by rfl, rfl⟩) ?_ ?_
                    rotate_left
                    · simp only [Act.put, List.setIfInBounds_toArray, List.set_cons_zero, List.set_cons_succ, i64_w, i32_w]
                      rfl
                    refine pure_ (i := 12) (N := some 27) (v := undef) (a' := ?_) #[true, true, true, true, true, true, true, true, true, true, true, true, true, false, false, false, false] rfl rfl (any_of HT_.out (by kernel_rfl)) (fun _ _ _ h => h) (Or.inr ⟨by rfl, rfl⟩) ?_ ?_
                    rotate_left
                    · simp only [Act.put, List.setIfInBounds_toArray, List.set_cons_zero, List.set_cons_succ, i64_w, i32_w]
                      rfl
                    refine pure_ (i := 13) (N := some 28) (v := undef) (a' := ?_) #[true, true, true, true, true, true, true, true, true, true, true, true, true, true, false, false, false] rfl rfl (any_of HT_.out (by kernel_rfl)) (fun _ _ _ h => h) (Or.inr ⟨by rfl, rfl⟩) ?_ ?_
                    rotate_left
                    · simp only [Act.put, List.setIfInBounds_toArray, List.set_cons_zero, List.set_cons_succ, i64_w, i32_w]
                      rfl
                    refine pure_ (i := 14) (N := some 29) (v := undef) (a' := ?_) #[true, true, true, true, true, true, true, true, true, true, true, true, true, true, true, false, false] rfl rfl (any_of HT_.out (by kernel_rfl)) (fun _ _ _ h => h) (Or.inr ⟨by rfl, rfl⟩) ?_ ?_
                    rotate_left
                    · simp only [Act.put, List.setIfInBounds_toArray, List.set_cons_zero, List.set_cons_succ, i64_w, i32_w]
                      rfl
                    refine pure_ (i := 15) (N := some 30) (v := undef) (a' := ?_) #[true, true, true, true, true, true, true, true, true, true, true, true, true, true, true, true, false] rfl rfl (any_of HT_.out (by kernel_rfl)) (fun _ _ _ h => h) (Or.inr ⟨by rfl, rfl⟩) ?_ ?_
                    rotate_left
                    · simp only [Act.put, List.setIfInBounds_toArray, List.set_cons_zero, List.set_cons_succ, i64_w, i32_w]
                      rfl
                    refine pure_ (i := 16) (N := some 31) (v := ?_) (a' := ?_) #[true, true, true, true, true, true, true, true, true, true, true, true, true, true, true, true, true] rfl rfl (any_of HT_.out (by kernel_rfl)) (fun _ _ _ h => h) (Or.inl ⟨by rfl, ?_⟩) ?_ ?_
                    rotate_left
                    · intro w'
                      go_simp
                      with_reducible rfl
                    rotate_left
                    · simp only [Act.put, List.setIfInBounds_toArray, List.set_cons_zero, List.set_cons_succ, i64_w, i32_w]
                      rfl
                    refine done_ (done_of HT_.out (by kernel_rfl)) ?_
                    try go_wp2
                    go_meet
                    case rel => exact ⟨_, (false), (by first | rfl | (simp; done) | (simp [*]; done)), H', ⟨by have := HK1.out; first | omega | exact Nat.le_refl _⟩, ⟨by refine bk (h := ?_); exact BK237.out⟩, ⟨bw⟩⟩
                  · rw [if_neg c13] at H
                    have c13b0 : (((rd_T34 l0 x10_1).f1).toList == ([] : List UInt8)) = false := beq_eq_false_iff_ne.mpr c13
                    have c13b1 : (((rd_T34 l0 x10_1).f1).toList != ([] : List UInt8)) = true := bne_iff_ne.mpr c13
                    (first | rw [c13b0] | (simp only [i64_w, i32_w]; rw [c13b0]) | skip)
                    have c17b0 := eq_true (od : 0 ≤ x10_1)
                    by_cases c18 : x10_1 ≤ (l0.length : Int)
                    · rw [if_pos c18] at H
                      have c18b0 := eq_true c18
                      have c18b1 : decide (x10_1 ≤ (l0.length : Int)) = true := decide_eq_true c18
                      clear c18
                      obtain ⟨y239, hy239⟩ : ∃ y_ : List (S34), y_ = (l0.take (x10_1 : Int).toNat) := ⟨_, rfl⟩
                      replace H : ((impl_NamesOf.f k1 y239).bind fun t243 => ((slices_Contains_string_string.f k1 t243 ((rd_T34 l0 x10_1).f1)).bind fun t246 => (impl_FirstUnnamed.j1 k1 l0 x10_1 l0 (l0.length : Int) x10_1 (!t246)))) = some r := by first | (rw [hy239]; with_reducible exact H) | (have H2_ := (Option.bind_some _ _).symm.trans H; rw [hy239]; with_reducible exact H2_) | (have H2_ := (Option.bind_some _ _).symm.trans H; with_reducible exact H2_) | with_reducible exact H | (rw [hy239]; exact H) | exact H
                      have Ny239 := Aside0.mk hy239
                      clear hy239
                      replace H := Option.bind_eq_some_iff.mp H
                      obtain ⟨t243, A190, H⟩ := H
                      replace H : ((slices_Contains_string_string.f k1 t243 ((rd_T34 l0 x10_1).f1)).bind fun t246 => (impl_FirstUnnamed.j1 k1 l0 x10_1 l0 (l0.length : Int) x10_1 (!t246))) = some r := H
                      have A19 := Aside0.mk A190
                      clear A190
                      replace H := Option.bind_eq_some_iff.mp H
                      obtain ⟨t246, A200, H⟩ := H
                      replace H : (impl_FirstUnnamed.j1 k1 l0 x10_1 l0 (l0.length : Int) x10_1 (!t246)) = some r := H
                      have A20 := Aside0.mk A200
                      clear A200
                      have H' := Aside0.mk H
                      clear H
                      try go_wp2
                      have n0_ : Aside0 ((((((((((w9.setCell ⟨gb237, 0, none⟩ (.int .i64 ((rd_T34 l0 x10_1).f0))).setCell ⟨gb237, 1, none⟩ (.string ((rd_T34 l0 x10_1).f1))).setCell ⟨gb237, 2, none⟩ (.int .i64 ((rd_T34 l0 x10_1).f2.f0))).setCell ⟨gb237, 3, none⟩ (.int .i64 ((rd_T34 l0 x10_1).f2.f1.f0))).setCell ⟨gb237, 4, none⟩ (.int .i64 ((rd_T34 l0 x10_1).f2.f1.f1))).setCell ⟨gb237, 5, none⟩ (.int .i64 ((rd_T34 l0 x10_1).f2.f1.f2))).setCell ⟨gb237, 6, none⟩ (.int .i64 ((rd_T34 l0 x10_1).f3))).setCell ⟨gb237, 7, none⟩ (.int .i64 ((rd_T34 l0 x10_1).f4))).setCell ⟨gb237, 8, none⟩ (.bool ((rd_T34 l0 x10_1).f5))).heap[gb237]? = some (.cells #[.int .i64 ((rd_T34 l0 x10_1).f0), .string ((rd_T34 l0 x10_1).f1), .int .i64 ((rd_T34 l0 x10_1).f2.f0), .int .i64 ((rd_T34 l0 x10_1).f2.f1.f0), .int .i64 ((rd_T34 l0 x10_1).f2.f1.f1), .int .i64 ((rd_T34 l0 x10_1).f2.f1.f2), .int .i64 ((rd_T34 l0 x10_1).f3), .int .i64 ((rd_T34 l0 x10_1).f4), .bool ((rd_T34 l0 x10_1).f5)] 34 (0, 0))) := ⟨by refine bk (h := ?_); refine blk_put (cs := #[.int .i64 ((rd_T34 l0 x10_1).f0), .string ((rd_T34 l0 x10_1).f1), .int .i64 ((rd_T34 l0 x10_1).f2.f0), .int .i64 ((rd_T34 l0 x10_1).f2.f1.f0), .int .i64 ((rd_T34 l0 x10_1).f2.f1.f1), .int .i64 ((rd_T34 l0 x10_1).f2.f1.f2), .int .i64 ((rd_T34 l0 x10_1).f3), .int .i64 ((rd_T34 l0 x10_1).f4), .bool false]) ?_ 8 _ rfl; refine bk (h := ?_); refine blk_put (cs := #[.int .i64 ((rd_T34 l0 x10_1).f0), .string ((rd_T34 l0 x10_1).f1), .int .i64 ((rd_T34 l0 x10_1).f2.f0), .int .i64 ((rd_T34 l0 x10_1).f2.f1.f0), .int .i64 ((rd_T34 l0 x10_1).f2.f1.f1), .int .i64 ((rd_T34 l0 x10_1).f2.f1.f2), .int .i64 ((rd_T34 l0 x10_1).f3), .int .i64 0, .bool false]) ?_ 7 _ rfl; refine bk (h := ?_); refine blk_put (cs := #[.int .i64 ((rd_T34 l0 x10_1).f0), .string ((rd_T34 l0 x10_1).f1), .int .i64 ((rd_T34 l0 x10_1).f2.f0), .int .i64 ((rd_T34 l0 x10_1).f2.f1.f0), .int .i64 ((rd_T34 l0 x10_1).f2.f1.f1), .int .i64 ((rd_T34 l0 x10_1).f2.f1.f2), .int .i64 0, .int .i64 0, .bool false]) ?_ 6 _ rfl; refine bk (h := ?_); refine blk_put (cs := #[.int .i64 ((rd_T34 l0 x10_1).f0), .string ((rd_T34 l0 x10_1).f1), .int .i64 ((rd_T34 l0 x10_1).f2.f0), .int .i64 ((rd_T34 l0 x10_1).f2.f1.f0), .int .i64 ((rd_T34 l0 x10_1).f2.f1.f1), .int .i64 0, .int .i64 0, .int .i64 0, .bool false]) ?_ 5 _ rfl; refine bk (h := ?_); refine blk_put (cs := #[.int .i64 ((rd_T34 l0 x10_1).f0), .string ((rd_T34 l0 x10_1).f1), .int .i64 ((rd_T34 l0 x10_1).f2.f0), .int .i64 ((rd_T34 l0 x10_1).f2.f1.f0), .int .i64 0, .int .i64 0, .int .i64 0, .int .i64 0, .bool false]) ?_ 4 _ rfl; refine bk (h := ?_); refine blk_put (cs := #[.int .i64 ((rd_T34 l0 x10_1).f0), .string ((rd_T34 l0 x10_1).f1), .int .i64 ((rd_T34 l0 x10_1).f2.f0), .int .i64 0, .int .i64 0, .int .i64 0, .int .i64 0, .int .i64 0, .bool false]) ?_ 3 _ rfl; refine bk (h := ?_); refine blk_put (cs := #[.int .i64 ((rd_T34 l0 x10_1).f0), .string ((rd_T34 l0 x10_1).f1), .int .i64 0, .int .i64 0, .int .i64 0, .int .i64 0, .int .i64 0, .int .i64 0, .bool false]) ?_ 2 _ rfl; refine bk (h := ?_); refine blk_put (cs := #[.int .i64 ((rd_T34 l0 x10_1).f0), .string (⟨#[]⟩ : ByteArray), .int .i64 0, .int .i64 0, .int .i64 0, .int .i64 0, .int .i64 0, .int .i64 0, .bool false]) ?_ 1 _ rfl; refine bk (h := ?_); refine blk_put (cs := #[.int .i64 0, .string (⟨#[]⟩ : ByteArray), .int .i64 0, .int .i64 0, .int .i64 0, .int .i64 0, .int .i64 0, .int .i64 0, .bool false]) ?_ 0 _ rfl; refine bk (h := ?_); exact BK237.out⟩
                      have n1_ : Aside0 (Below w.heap.size w (((((((((w9.setCell ⟨gb237, 0, none⟩ (.int .i64 ((rd_T34 l0 x10_1).f0))).setCell ⟨gb237, 1, none⟩ (.string ((rd_T34 l0 x10_1).f1))).setCell ⟨gb237, 2, none⟩ (.int .i64 ((rd_T34 l0 x10_1).f2.f0))).setCell ⟨gb237, 3, none⟩ (.int .i64 ((rd_T34 l0 x10_1).f2.f1.f0))).setCell ⟨gb237, 4, none⟩ (.int .i64 ((rd_T34 l0 x10_1).f2.f1.f1))).setCell ⟨gb237, 5, none⟩ (.int .i64 ((rd_T34 l0 x10_1).f2.f1.f2))).setCell ⟨gb237, 6, none⟩ (.int .i64 ((rd_T34 l0 x10_1).f3))).setCell ⟨gb237, 7, none⟩ (.int .i64 ((rd_T34 l0 x10_1).f4))).setCell ⟨gb237, 8, none⟩ (.bool ((rd_T34 l0 x10_1).f5)))) := ⟨bw⟩
                      (try clear BK237)
                      (try clear HB)
                      generalize (((((((((w9.setCell ⟨gb237, 0, none⟩ (.int .i64 ((rd_T34 l0 x10_1).f0))).setCell ⟨gb237, 1, none⟩ (.string ((rd_T34 l0 x10_1).f1))).setCell ⟨gb237, 2, none⟩ (.int .i64 ((rd_T34 l0 x10_1).f2.f0))).setCell ⟨gb237, 3, none⟩ (.int .i64 ((rd_T34 l0 x10_1).f2.f1.f0))).setCell ⟨gb237, 4, none⟩ (.int .i64 ((rd_T34 l0 x10_1).f2.f1.f1))).setCell ⟨gb237, 5, none⟩ (.int .i64 ((rd_T34 l0 x10_1).f2.f1.f2))).setCell ⟨gb237, 6, none⟩ (.int .i64 ((rd_T34 l0 x10_1).f3))).setCell ⟨gb237, 7, none⟩ (.int .i64 ((rd_T34 l0 x10_1).f4))).setCell ⟨gb237, 8, none⟩ (.bool ((rd_T34 l0 x10_1).f5))) = w21 at n0_ n1_ ⊢
                      have BK237 := n0_
                      have HB := n1_
                      clear n0_ n1_
                      replace BK237 := Aside0.mk (blk_drew BK237.out)
                      replace HB := Aside0.mk (below_drew1 HB.out)
                      refine start_ (n := 17) (S := fun w' => w'.cell? ⟨gb237, 0, none⟩ = some (.int .i64 ((rd_T34 l0 x10_1).f0)) ∧ w'.cell? ⟨gb237, 1, none⟩ = some (.string ((rd_T34 l0 x10_1).f1)) ∧ w'.cell? ⟨gb237, 2, none⟩ = some (.int .i64 ((rd_T34 l0 x10_1).f2.f0)) ∧ w'.cell? ⟨gb237, 3, none⟩ = some (.int .i64 ((rd_T34 l0 x10_1).f2.f1.f0)) ∧ w'.cell? ⟨gb237, 4, none⟩ = some (.int .i64 ((rd_T34 l0 x10_1).f2.f1.f1)) ∧ w'.cell? ⟨gb237, 5, none⟩ = some (.int .i64 ((rd_T34 l0 x10_1).f2.f1.f2)) ∧ w'.cell? ⟨gb237, 6, none⟩ = some (.int .i64 ((rd_T34 l0 x10_1).f3)) ∧ w'.cell? ⟨gb237, 7, none⟩ = some (.int .i64 ((rd_T34 l0 x10_1).f4)) ∧ w'.cell? ⟨gb237, 8, none⟩ = some (.bool ((rd_T34 l0 x10_1).f5))) (ds := []) #[false, false, false, false, false, false, false, false, false, false, false, false, false, false, false, false, false] (by kernel_rfl) rfl rfl ⟨(blk_cell BK237.out 0).trans rfl, (blk_cell BK237.out 1).trans rfl, (blk_cell BK237.out 2).trans rfl, (blk_cell BK237.out 3).trans rfl, (blk_cell BK237.out 4).trans rfl, (blk_cell BK237.out 5).trans rfl, (blk_cell BK237.out 6).trans rfl, (blk_cell BK237.out 7).trans rfl, (blk_cell BK237.out 8).trans rfl⟩ (fun hHeld => ?_); refine with_tabW impl_FirstUnnamed.tab6 impl_FirstUnnamed.bits6 (fun HT_ HW_ => ?_)
                      generalize w21.drew = w22 at BK237 HB hHeld ⊢
                      refine take_ (i := 0) (N := some 15) (v := ?_) (a' := ?_) #[true, false, false, false, false, false, false, false, false, false, false, false, false, false, false, false, false] rfl rfl (take_ofW HT_.out HW_.out (by kernel_rfl)) (fun _ _ _ h => h) (Or.inl ⟨by rfl, ?_⟩) hHeld ?_ ?_
                      rotate_left
                      · rintro w' ⟨s0, s1, s2, s3, s4, s5, s6, s7, s8⟩
                        go_simp
                        with_reducible rfl
                      rotate_left
                      · simp only [Act.put, List.setIfInBounds_toArray, List.set_cons_zero, List.set_cons_succ, i64_w, i32_w]
                        rfl
                      refine one_ (i := 1) (N := some 16) #[true, true, false, false, false, false, false, false, false, false, false, false, false, false, false, false, false] rfl rfl (one_of HT_.out (by kernel_rfl)) (by decide) (fun K hK => ?_)
                      refine goes_ Tryd.func59 (by kernel_rfl) rfl #[.agg #[.int .i64 ((rd_T34 l0 x10_1).f0), .string ((rd_T34 l0 x10_1).f1), .int .i64 ((rd_T34 l0 x10_1).f2.f0), .int .i64 ((rd_T34 l0 x10_1).f2.f1.f0), .int .i64 ((rd_T34 l0 x10_1).f2.f1.f1), .int .i64 ((rd_T34 l0 x10_1).f2.f1.f2), .int .i64 ((rd_T34 l0 x10_1).f3), .int .i64 ((rd_T34 l0 x10_1).f4), .bool ((rd_T34 l0 x10_1).f5)]] (by rfl) rfl rfl (by (try simp only [List.map_toArray, List.map_cons, List.map_nil]); first | done | rfl | (simp only [List.length_drop, List.length_take]; rfl)) ?_
                      with_reducible refine (impl_Step_isFold.calls ((rd_T34 l0 x10_1).f0) ((rd_T34 l0 x10_1).f1) ((rd_T34 l0 x10_1).f2.f0) ((rd_T34 l0 x10_1).f2.f1.f0) ((rd_T34 l0 x10_1).f2.f1.f1) ((rd_T34 l0 x10_1).f2.f1.f2) ((rd_T34 l0 x10_1).f3) ((rd_T34 l0 x10_1).f4) ((rd_T34 l0 x10_1).f5) true _ A11.out).mono ?_
                      rintro e w23 ⟨rfl, hb⟩
                      refine ⟨_, rfl, ?_⟩
                      replace BK237 := bb BK237 hb
                      replace HB := bs hb
                      (try clear hb)
                      (try clear hb2)
                      (try clear hk)
                      (try clear hi)
                      have q24 : (x10_1 : Int) ≤ ((l0.length : Int) : Int) := od
                      obtain ⟨i024, hi024, _, hsz24, _⟩ := info_parts info34
                      have hroom24 : l0.length ≤ c0 := HC0.out
                      have hC24 : Kd.C k34 _ (some ad236) l0.length l0 := HR0.out
                      have hcut24 := cut_to (P := Tryd.prog) 40 34 .i64 Tryd.underlying40 hi024 (some ad236) l0.length c0 x10_1 (od) q24 hroom24
                      have hr24 := Kd.C_take (m := (x10_1 : Int).toNat) hC24 (by omega)
                      have hy24 : y239.length = (x10_1 : Int).toNat := (by rw [Ny239.out, List.length_take]; omega)
                      rw [← Ny239.out] at hr24
                      rw [← hy24] at hcut24
                      have HR242 := Aside0.mk hr24
                      have HC242 := Aside0.mk (show y239.length ≤ c0 from by omega)
                      clear hr24 hC24 hroom24 hi024 hsz24
                      have KY24 := Aside0.mk hy24
                      clear hy24
                      replace q24 := eq_true q24
                      refine hK.out _ _ ⟨(blk_cell BK237.out 0).trans rfl, (blk_cell BK237.out 1).trans rfl, (blk_cell BK237.out 2).trans rfl, (blk_cell BK237.out 3).trans rfl, (blk_cell BK237.out 4).trans rfl, (blk_cell BK237.out 5).trans rfl, (blk_cell BK237.out 6).trans rfl, (blk_cell BK237.out 7).trans rfl, (blk_cell BK237.out 8).trans rfl⟩ (fun hHeld => ?_)
                      clear hK K
                      refine norm_ (a' := ?_) ?_ ?_
                      rotate_left
                      · show Act.put _ (some 16) _ = _
                        simp only [Act.put, List.setIfInBounds_toArray, List.set_cons_zero, List.set_cons_succ, i64_w, i32_w]
                        rfl
                      refine pure_ (i := 2) (N := some 17) (v := ?_) (a' := ?_) #[true, true, true, false, false, false, false, false, false, false, false, false, false, false, false, false, false] rfl rfl (any_of HT_.out (by kernel_rfl)) (fun _ _ _ h => h) (Or.inl ⟨by rfl, ?_⟩) ?_ ?_
                      rotate_left
                      · intro w'
                        go_simp
                        with_reducible rfl
                      rotate_left
                      · simp only [Act.put, List.setIfInBounds_toArray, List.set_cons_zero, List.set_cons_succ, i64_w, i32_w]
                        rfl
                      refine pure_ (i := 3) (N := some 18) (v := ?_) (a' := ?_) #[true, true, true, true, false, false, false, false, false, false, false, false, false, false, false, false, false] rfl rfl (any_of HT_.out (by kernel_rfl)) (fun _ _ _ h => h) (Or.inl ⟨by rfl, ?_⟩) ?_ ?_
                      rotate_left
                      · intro w'
                        go_simp
                        with_reducible rfl
                      rotate_left
                      · simp only [Act.put, List.setIfInBounds_toArray, List.set_cons_zero, List.set_cons_succ, i64_w, i32_w]
                        rfl
                      refine take_ (i := 4) (N := some 19) (v := ?_) (a' := ?_) #[true, true, true, true, true, false, false, false, false, false, false, false, false, false, false, false, false] rfl rfl (take_ofW HT_.out HW_.out (by kernel_rfl)) (fun _ _ _ h => h) (Or.inl ⟨by rfl, ?_⟩) hHeld ?_ ?_
                      rotate_left
                      · rintro w' ⟨s0, s1, s2, s3, s4, s5, s6, s7, s8⟩
                        go_simp
                        with_reducible rfl
                      rotate_left
                      · simp only [Act.put, List.setIfInBounds_toArray, List.set_cons_zero, List.set_cons_succ, i64_w, i32_w]
                        rfl
                      refine pure_ (i := 5) (N := some 20) (v := ?_) (a' := ?_) #[true, true, true, true, true, true, false, false, false, false, false, false, false, false, false, false, false] rfl rfl (any_of HT_.out (by kernel_rfl)) (fun _ _ _ h => h) (Or.inl ⟨by rfl, ?_⟩) ?_ ?_
                      rotate_left
                      · intro w'
                        go_simp
                        with_reducible rfl
                      rotate_left
                      · simp only [Act.put, List.setIfInBounds_toArray, List.set_cons_zero, List.set_cons_succ, i64_w, i32_w]
                        rfl
                      refine pure_ (i := 6) (N := some 21) (v := ?_) (a' := ?_) #[true, true, true, true, true, true, true, false, false, false, false, false, false, false, false, false, false] rfl rfl (any_of HT_.out (by kernel_rfl)) (fun _ _ _ h => h) (Or.inl ⟨by rfl, ?_⟩) ?_ ?_
                      rotate_left
                      · intro w'
                        go_simp
                        with_reducible rfl
                      rotate_left
                      · simp only [Act.put, List.setIfInBounds_toArray, List.set_cons_zero, List.set_cons_succ, i64_w, i32_w]
                        rfl
                      refine pure_ (i := 7) (N := some 22) (v := ?_) (a' := ?_) #[true, true, true, true, true, true, true, true, false, false, false, false, false, false, false, false, false] rfl rfl (any_of HT_.out (by kernel_rfl)) (fun _ _ _ h => h) (Or.inl ⟨by rfl, ?_⟩) ?_ ?_
                      rotate_left
                      · intro w'
                        go_simp
                        with_reducible rfl
                      rotate_left
                      · simp only [Act.put, List.setIfInBounds_toArray, List.set_cons_zero, List.set_cons_succ, i64_w, i32_w]
                        rfl
                      refine pure_ (i := 8) (N := some 23) (v := ?_) (a' := ?_) #[true, true, true, true, true, true, true, true, true, false, false, false, false, false, false, false, false] rfl rfl (any_of HT_.out (by kernel_rfl)) (fun _ _ _ h => h) (Or.inl ⟨by rfl, ?_⟩) ?_ ?_
                      rotate_left
                      · intro w'
                        go_simp
                        with_reducible rfl
                      rotate_left
                      · simp only [Act.put, List.setIfInBounds_toArray, List.set_cons_zero, List.set_cons_succ, i64_w, i32_w]
                        rfl
                      refine pure_ (i := 9) (N := some 24) (v := ?_) (a' := ?_) #[true, true, true, true, true, true, true, true, true, true, false, false, false, false, false, false, false] rfl rfl (any_of HT_.out (by kernel_rfl)) (fun _ _ _ h => h) (Or.inl ⟨by rfl, ?_⟩) ?_ ?_
                      rotate_left
                      · intro w'
                        go_simp
                        with_reducible rfl
                      rotate_left
                      · simp only [Act.put, List.setIfInBounds_toArray, List.set_cons_zero, List.set_cons_succ, i64_w, i32_w]
                        rfl
                      refine pure_ (i := 10) (N := some 25) (v := ?_) (a' := ?_) #[true, true, true, true, true, true, true, true, true, true, true, false, false, false, false, false, false] rfl rfl (any_of HT_.out (by kernel_rfl)) (fun _ _ _ h => h) (Or.inl ⟨by rfl, ?_⟩) ?_ ?_
                      rotate_left
                      · intro w'
                        go_simp
                        with_reducible rfl
                      rotate_left
                      · simp only [Act.put, List.setIfInBounds_toArray, List.set_cons_zero, List.set_cons_succ, i64_w, i32_w]
                        rfl
                      refine pure_ (i := 12) (N := some 27) (v := ?_) (a' := ?_) #[true, true, true, true, true, true, true, true, true, true, true, false, true, false, false, false, false] rfl rfl (any_of HT_.out (by kernel_rfl)) (fun _ _ _ h => h) (Or.inl ⟨by rfl, ?_⟩) ?_ ?_
                      rotate_left
                      · intro w'
                        go_simp
                        with_reducible rfl
                      rotate_left
                      · simp only [Act.put, List.setIfInBounds_toArray, List.set_cons_zero, List.set_cons_succ, i64_w, i32_w]
                        rfl
                      refine take_ (i := 13) (N := some 28) (v := ?_) (a' := ?_) #[true, true, true, true, true, true, true, true, true, true, true, false, true, true, false, false, false] rfl rfl (take_ofW HT_.out HW_.out (by kernel_rfl)) (fun _ _ _ h => h) (Or.inl ⟨by rfl, ?_⟩) hHeld ?_ ?_
                      rotate_left
                      · rintro w' ⟨s0, s1, s2, s3, s4, s5, s6, s7, s8⟩
                        go_simp
                        with_reducible rfl
                      rotate_left
                      · simp only [Act.put, List.setIfInBounds_toArray, List.set_cons_zero, List.set_cons_succ, i64_w, i32_w]
                        rfl
                      refine one_ (i := 11) (N := some 26) #[true, true, true, true, true, true, true, true, true, true, true, true, true, true, false, false, false] rfl rfl (one_of HT_.out (by kernel_rfl)) (by decide) (fun K hK => ?_)
                      refine goes_ Tryd.func33 (by kernel_rfl) rfl #[.slice (some ad236) y239.length c0] (by rfl) rfl rfl (by (try simp only [List.map_toArray, List.map_cons, List.map_nil]); first | done | rfl | (simp only [List.length_drop, List.length_take]; rfl)) ?_
                      with_reducible refine (impl_NamesOf.calls k1 _ _ y239 t243 _ ?side1 ?side2 A19.out).mono ?_
                      (case side1 => exact sd HR242)
                      (case side2 => exact HC242.out)
                      rintro e w25 ⟨v244, rfl, ho0, hb⟩
                      refine ⟨_, rfl, ?_⟩
                      have HO245 := Aside0.mk (Kd.R_lower ho0 (below_size bw))
                      replace BK237 := bb BK237 hb
                      replace HB := bs hb
                      (try clear hb)
                      (try clear hb2)
                      (try clear hk)
                      (try clear hi)
                      (try clear ho0)
                      obtain ⟨Ao26, co26, eo26⟩ := Kd.R_slice HO245.out
                      (first | subst eo26 | (injection eo26 with f1_ f2_ f3_; have f4_ := f1_.symm; have f5_ := f3_.symm; clear f1_ f2_ f3_; subst f4_; subst f5_))
                      refine hK.out _ _ ⟨(blk_cell BK237.out 0).trans rfl, (blk_cell BK237.out 1).trans rfl, (blk_cell BK237.out 2).trans rfl, (blk_cell BK237.out 3).trans rfl, (blk_cell BK237.out 4).trans rfl, (blk_cell BK237.out 5).trans rfl, (blk_cell BK237.out 6).trans rfl, (blk_cell BK237.out 7).trans rfl, (blk_cell BK237.out 8).trans rfl⟩ (fun hHeld => ?_)
                      clear hK K
                      refine norm_ (a' := ?_) ?_ ?_
                      rotate_left
                      · show Act.put _ (some 26) _ = _
                        simp only [Act.put, List.setIfInBounds_toArray, List.set_cons_zero, List.set_cons_succ, i64_w, i32_w]
                        rfl
                      refine one_ (i := 14) (N := some 29) #[true, true, true, true, true, true, true, true, true, true, true, true, true, true, true, false, false] rfl rfl (one_of HT_.out (by kernel_rfl)) (by decide) (fun K hK => ?_)
                      refine goes_ Tryd.func75 (by kernel_rfl) rfl #[.slice _ t243.length co26, .string ((rd_T34 l0 x10_1).f1)] (by rfl) rfl rfl (by (try simp only [List.map_toArray, List.map_cons, List.map_nil]); first | done | rfl | (simp only [List.length_drop, List.length_take]; rfl)) ?_
                      with_reducible refine (slices_Contains_string_string.calls k1 _ _ t243 ((rd_T34 l0 x10_1).f1) t246 _ ?side1 ?side2 A20.out).mono ?_
                      (case side1 => exact se HO245)
                      (case side2 => exact (Kd.R_reads' HO245.out).2.1)
                      rintro e w' ⟨rfl, ⟨nd, rfl⟩⟩
                      refine ⟨_, rfl, ?_⟩
                      refine hK.out _ _ ⟨(blk_cell BK237.out 0).trans rfl, (blk_cell BK237.out 1).trans rfl, (blk_cell BK237.out 2).trans rfl, (blk_cell BK237.out 3).trans rfl, (blk_cell BK237.out 4).trans rfl, (blk_cell BK237.out 5).trans rfl, (blk_cell BK237.out 6).trans rfl, (blk_cell BK237.out 7).trans rfl, (blk_cell BK237.out 8).trans rfl⟩ (fun hHeld => ?_)
                      clear hK K
                      refine norm_ (a' := ?_) ?_ ?_
                      rotate_left
                      · show Act.put _ (some 29) _ = _
                        simp only [Act.put, List.setIfInBounds_toArray, List.set_cons_zero, List.set_cons_succ, i64_w, i32_w]
                        rfl
                      refine pure_ (i := 15) (N := some 30) (v := ?_) (a' := ?_) #[true, true, true, true, true, true, true, true, true, true, true, true, true, true, true, true, false] rfl rfl (any_of HT_.out (by kernel_rfl)) (fun _ _ _ h => h) (Or.inl ⟨by rfl, ?_⟩) ?_ ?_
                      rotate_left
                      · intro w'
                        go_simp
                        with_reducible rfl
                      rotate_left
                      · simp only [Act.put, List.setIfInBounds_toArray, List.set_cons_zero, List.set_cons_succ, i64_w, i32_w]
                        rfl
                      refine pure_ (i := 16) (N := some 31) (v := ?_) (a' := ?_) #[true, true, true, true, true, true, true, true, true, true, true, true, true, true, true, true, true] rfl rfl (any_of HT_.out (by kernel_rfl)) (fun _ _ _ h => h) (Or.inl ⟨by rfl, ?_⟩) ?_ ?_
                      rotate_left
                      · intro w'
                        go_simp
                        with_reducible rfl
                      rotate_left
                      · simp only [Act.put, List.setIfInBounds_toArray, List.set_cons_zero, List.set_cons_succ, i64_w, i32_w]
                        rfl
                      refine done_ (done_of HT_.out (by kernel_rfl)) ?_
                      try go_wp2
                      go_meet
                      case rel => exact ⟨_, (!t246), (by first | rfl | (simp; done) | (simp [*]; done)), H', ⟨by have := HK1.out; first | omega | exact Nat.le_refl _⟩, ⟨by refine bk (h := ?_); exact BK237.out⟩, ⟨bw⟩⟩
                    · rw [if_neg c18] at H
                      exact absurd H (by simp)
                · replace c12 := Bool.eq_false_iff.mpr c12
                  subst c12
                  rw [if_neg nf] at H
                  have H' := Aside0.mk H
                  clear H
                  try go_wp2
                  have n0_ : Aside0 ((((((((((w9.setCell ⟨gb237, 0, none⟩ (.int .i64 ((rd_T34 l0 x10_1).f0))).setCell ⟨gb237, 1, none⟩ (.string ((rd_T34 l0 x10_1).f1))).setCell ⟨gb237, 2, none⟩ (.int .i64 ((rd_T34 l0 x10_1).f2.f0))).setCell ⟨gb237, 3, none⟩ (.int .i64 ((rd_T34 l0 x10_1).f2.f1.f0))).setCell ⟨gb237, 4, none⟩ (.int .i64 ((rd_T34 l0 x10_1).f2.f1.f1))).setCell ⟨gb237, 5, none⟩ (.int .i64 ((rd_T34 l0 x10_1).f2.f1.f2))).setCell ⟨gb237, 6, none⟩ (.int .i64 ((rd_T34 l0 x10_1).f3))).setCell ⟨gb237, 7, none⟩ (.int .i64 ((rd_T34 l0 x10_1).f4))).setCell ⟨gb237, 8, none⟩ (.bool ((rd_T34 l0 x10_1).f5))).heap[gb237]? = some (.cells #[.int .i64 ((rd_T34 l0 x10_1).f0), .string ((rd_T34 l0 x10_1).f1), .int .i64 ((rd_T34 l0 x10_1).f2.f0), .int .i64 ((rd_T34 l0 x10_1).f2.f1.f0), .int .i64 ((rd_T34 l0 x10_1).f2.f1.f1), .int .i64 ((rd_T34 l0 x10_1).f2.f1.f2), .int .i64 ((rd_T34 l0 x10_1).f3), .int .i64 ((rd_T34 l0 x10_1).f4), .bool ((rd_T34 l0 x10_1).f5)] 34 (0, 0))) := ⟨by refine bk (h := ?_); refine blk_put (cs := #[.int .i64 ((rd_T34 l0 x10_1).f0), .string ((rd_T34 l0 x10_1).f1), .int .i64 ((rd_T34 l0 x10_1).f2.f0), .int .i64 ((rd_T34 l0 x10_1).f2.f1.f0), .int .i64 ((rd_T34 l0 x10_1).f2.f1.f1), .int .i64 ((rd_T34 l0 x10_1).f2.f1.f2), .int .i64 ((rd_T34 l0 x10_1).f3), .int .i64 ((rd_T34 l0 x10_1).f4), .bool false]) ?_ 8 _ rfl; refine bk (h := ?_); refine blk_put (cs := #[.int .i64 ((rd_T34 l0 x10_1).f0), .string ((rd_T34 l0 x10_1).f1), .int .i64 ((rd_T34 l0 x10_1).f2.f0), .int .i64 ((rd_T34 l0 x10_1).f2.f1.f0), .int .i64 ((rd_T34 l0 x10_1).f2.f1.f1), .int .i64 ((rd_T34 l0 x10_1).f2.f1.f2), .int .i64 ((rd_T34 l0 x10_1).f3), .int .i64 0, .bool false]) ?_ 7 _ rfl; refine bk (h := ?_); refine blk_put (cs := #[.int .i64 ((rd_T34 l0 x10_1).f0), .string ((rd_T34 l0 x10_1).f1), .int .i64 ((rd_T34 l0 x10_1).f2.f0), .int .i64 ((rd_T34 l0 x10_1).f2.f1.f0), .int .i64 ((rd_T34 l0 x10_1).f2.f1.f1), .int .i64 ((rd_T34 l0 x10_1).f2.f1.f2), .int .i64 0, .int .i64 0, .bool false]) ?_ 6 _ rfl; refine bk (h := ?_); refine blk_put (cs := #[.int .i64 ((rd_T34 l0 x10_1).f0), .string ((rd_T34 l0 x10_1).f1), .int .i64 ((rd_T34 l0 x10_1).f2.f0), .int .i64 ((rd_T34 l0 x10_1).f2.f1.f0), .int .i64 ((rd_T34 l0 x10_1).f2.f1.f1), .int .i64 0, .int .i64 0, .int .i64 0, .bool false]) ?_ 5 _ rfl; refine bk (h := ?_); refine blk_put (cs := #[.int .i64 ((rd_T34 l0 x10_1).f0), .string ((rd_T34 l0 x10_1).f1), .int .i64 ((rd_T34 l0 x10_1).f2.f0), .int .i64 ((rd_T34 l0 x10_1).f2.f1.f0), .int .i64 0, .int .i64 0, .int .i64 0, .int .i64 0, .bool false]) ?_ 4 _ rfl; refine bk (h := ?_); refine blk_put (cs := #[.int .i64 ((rd_T34 l0 x10_1).f0), .string ((rd_T34 l0 x10_1).f1), .int .i64 ((rd_T34 l0 x10_1).f2.f0), .int .i64 0, .int .i64 0, .int .i64 0, .int .i64 0, .int .i64 0, .bool false]) ?_ 3 _ rfl; refine bk (h := ?_); refine blk_put (cs := #[.int .i64 ((rd_T34 l0 x10_1).f0), .string ((rd_T34 l0 x10_1).f1), .int .i64 0, .int .i64 0, .int .i64 0, .int .i64 0, .int .i64 0, .int .i64 0, .bool false]) ?_ 2 _ rfl; refine bk (h := ?_); refine blk_put (cs := #[.int .i64 ((rd_T34 l0 x10_1).f0), .string (⟨#[]⟩ : ByteArray), .int .i64 0, .int .i64 0, .int .i64 0, .int .i64 0, .int .i64 0, .int .i64 0, .bool false]) ?_ 1 _ rfl; refine bk (h := ?_); refine blk_put (cs := #[.int .i64 0, .string (⟨#[]⟩ : ByteArray), .int .i64 0, .int .i64 0, .int .i64 0, .int .i64 0, .int .i64 0, .int .i64 0, .bool false]) ?_ 0 _ rfl; refine bk (h := ?_); exact BK237.out⟩
                  have n1_ : Aside0 (Below w.heap.size w (((((((((w9.setCell ⟨gb237, 0, none⟩ (.int .i64 ((rd_T34 l0 x10_1).f0))).setCell ⟨gb237, 1, none⟩ (.string ((rd_T34 l0 x10_1).f1))).setCell ⟨gb237, 2, none⟩ (.int .i64 ((rd_T34 l0 x10_1).f2.f0))).setCell ⟨gb237, 3, none⟩ (.int .i64 ((rd_T34 l0 x10_1).f2.f1.f0))).setCell ⟨gb237, 4, none⟩ (.int .i64 ((rd_T34 l0 x10_1).f2.f1.f1))).setCell ⟨gb237, 5, none⟩ (.int .i64 ((rd_T34 l0 x10_1).f2.f1.f2))).setCell ⟨gb237, 6, none⟩ (.int .i64 ((rd_T34 l0 x10_1).f3))).setCell ⟨gb237, 7, none⟩ (.int .i64 ((rd_T34 l0 x10_1).f4))).setCell ⟨gb237, 8, none⟩ (.bool ((rd_T34 l0 x10_1).f5)))) := ⟨bw⟩
                  (try clear BK237)
                  (try clear HB)
                  generalize (((((((((w9.setCell ⟨gb237, 0, none⟩ (.int .i64 ((rd_T34 l0 x10_1).f0))).setCell ⟨gb237, 1, none⟩ (.string ((rd_T34 l0 x10_1).f1))).setCell ⟨gb237, 2, none⟩ (.int .i64 ((rd_T34 l0 x10_1).f2.f0))).setCell ⟨gb237, 3, none⟩ (.int .i64 ((rd_T34 l0 x10_1).f2.f1.f0))).setCell ⟨gb237, 4, none⟩ (.int .i64 ((rd_T34 l0 x10_1).f2.f1.f1))).setCell ⟨gb237, 5, none⟩ (.int .i64 ((rd_T34 l0 x10_1).f2.f1.f2))).setCell ⟨gb237, 6, none⟩ (.int .i64 ((rd_T34 l0 x10_1).f3))).setCell ⟨gb237, 7, none⟩ (.int .i64 ((rd_T34 l0 x10_1).f4))).setCell ⟨gb237, 8, none⟩ (.bool ((rd_T34 l0 x10_1).f5))) = w27 at n0_ n1_ ⊢
                  have BK237 := n0_
                  have HB := n1_
                  clear n0_ n1_
                  replace BK237 := Aside0.mk (blk_drew BK237.out)
                  replace HB := Aside0.mk (below_drew1 HB.out)
                  refine start_ (n := 17) (S := fun w' => w'.cell? ⟨gb237, 0, none⟩ = some (.int .i64 ((rd_T34 l0 x10_1).f0)) ∧ w'.cell? ⟨gb237, 1, none⟩ = some (.string ((rd_T34 l0 x10_1).f1)) ∧ w'.cell? ⟨gb237, 2, none⟩ = some (.int .i64 ((rd_T34 l0 x10_1).f2.f0)) ∧ w'.cell? ⟨gb237, 3, none⟩ = some (.int .i64 ((rd_T34 l0 x10_1).f2.f1.f0)) ∧ w'.cell? ⟨gb237, 4, none⟩ = some (.int .i64 ((rd_T34 l0 x10_1).f2.f1.f1)) ∧ w'.cell? ⟨gb237, 5, none⟩ = some (.int .i64 ((rd_T34 l0 x10_1).f2.f1.f2)) ∧ w'.cell? ⟨gb237, 6, none⟩ = some (.int .i64 ((rd_T34 l0 x10_1).f3)) ∧ w'.cell? ⟨gb237, 7, none⟩ = some (.int .i64 ((rd_T34 l0 x10_1).f4)) ∧ w'.cell? ⟨gb237, 8, none⟩ = some (.bool ((rd_T34 l0 x10_1).f5))) (ds := []) #[false, false, false, false, false, false, false, false, false, false, false, false, false, false, false, false, false] (by kernel_rfl) rfl rfl ⟨(blk_cell BK237.out 0).trans rfl, (blk_cell BK237.out 1).trans rfl, (blk_cell BK237.out 2).trans rfl, (blk_cell BK237.out 3).trans rfl, (blk_cell BK237.out 4).trans rfl, (blk_cell BK237.out 5).trans rfl, (blk_cell BK237.out 6).trans rfl, (blk_cell BK237.out 7).trans rfl, (blk_cell BK237.out 8).trans rfl⟩ (fun hHeld => ?_); refine with_tabW impl_FirstUnnamed.tab6 impl_FirstUnnamed.bits6 (fun HT_ HW_ => ?_)
                  generalize w27.drew = w28 at BK237 HB hHeld ⊢
                  refine take_ (i := 0) (N := some 15) (v := ?_) (a' := ?_) #[true, false, false, false, false, false, false, false, false, false, false, false, false, false, false, false, false] rfl rfl (take_ofW HT_.out HW_.out (by kernel_rfl)) (fun _ _ _ h => h) (Or.inl ⟨by rfl, ?_⟩) hHeld ?_ ?_
                  rotate_left
                  · rintro w' ⟨s0, s1, s2, s3, s4, s5, s6, s7, s8⟩
                    go_simp
                    with_reducible rfl
                  rotate_left
                  · simp only [Act.put, List.setIfInBounds_toArray, List.set_cons_zero, List.set_cons_succ, i64_w, i32_w]
                    rfl
                  refine one_ (i := 1) (N := some 16) #[true, true, false, false, false, false, false, false, false, false, false, false, false, false, false, false, false] rfl rfl (one_of HT_.out (by kernel_rfl)) (by decide) (fun K hK => ?_)
                  refine goes_ Tryd.func59 (by kernel_rfl) rfl #[.agg #[.int .i64 ((rd_T34 l0 x10_1).f0), .string ((rd_T34 l0 x10_1).f1), .int .i64 ((rd_T34 l0 x10_1).f2.f0), .int .i64 ((rd_T34 l0 x10_1).f2.f1.f0), .int .i64 ((rd_T34 l0 x10_1).f2.f1.f1), .int .i64 ((rd_T34 l0 x10_1).f2.f1.f2), .int .i64 ((rd_T34 l0 x10_1).f3), .int .i64 ((rd_T34 l0 x10_1).f4), .bool ((rd_T34 l0 x10_1).f5)]] (by rfl) rfl rfl (by (try simp only [List.map_toArray, List.map_cons, List.map_nil]); first | done | rfl | (simp only [List.length_drop, List.length_take]; rfl)) ?_
                  with_reducible refine (impl_Step_isFold.calls ((rd_T34 l0 x10_1).f0) ((rd_T34 l0 x10_1).f1) ((rd_T34 l0 x10_1).f2.f0) ((rd_T34 l0 x10_1).f2.f1.f0) ((rd_T34 l0 x10_1).f2.f1.f1) ((rd_T34 l0 x10_1).f2.f1.f2) ((rd_T34 l0 x10_1).f3) ((rd_T34 l0 x10_1).f4) ((rd_T34 l0 x10_1).f5) false _ A11.out).mono ?_
                  rintro e w29 ⟨rfl, hb⟩
                  refine ⟨_, rfl, ?_⟩
                  replace BK237 := bb BK237 hb
                  replace HB := bs hb
                  (try clear hb)
                  (try clear hb2)
                  (try clear hk)
                  (try clear hi)
                  refine hK.out _ _ ⟨(blk_cell BK237.out 0).trans rfl, (blk_cell BK237.out 1).trans rfl, (blk_cell BK237.out 2).trans rfl, (blk_cell BK237.out 3).trans rfl, (blk_cell BK237.out 4).trans rfl, (blk_cell BK237.out 5).trans rfl, (blk_cell BK237.out 6).trans rfl, (blk_cell BK237.out 7).trans rfl, (blk_cell BK237.out 8).trans rfl⟩ (fun hHeld => ?_)
                  clear hK K
                  refine norm_ (a' := ?_) ?_ ?_
                  rotate_left
                  · show Act.put _ (some 16) _ = _
                    simp only [Act.put, List.setIfInBounds_toArray, List.set_cons_zero, List.set_cons_succ, i64_w, i32_w]
                    rfl
                  refine pure_ (i := 2) (N := some 17) (v := ?_) (a' := ?_) #[true, true, true, false, false, false, false, false, false, false, false, false, false, false, false, false, false] rfl rfl (any_of HT_.out (by kernel_rfl)) (fun _ _ _ h => h) (Or.inl ⟨by rfl, ?_⟩) ?_ ?_
                  rotate_left
                  · intro w'
                    go_simp
                    with_reducible rfl
                  rotate_left
                  · simp only [Act.put, List.setIfInBounds_toArray, List.set_cons_zero, List.set_cons_succ, i64_w, i32_w]
                    rfl
                  refine pure_ (i := 3) (N := some 18) (v := undef) (a' := ?_) #[true, true, true, true, false, false, false, false, false, false, false, false, false, false, false, false, false] rfl rfl (any_of HT_.out (by kernel_rfl)) (fun _ _ _ h => h) (Or.inr ⟨by rfl, rfl⟩) ?_ ?_
                  rotate_left
                  · simp only [Act.put, List.setIfInBounds_toArray, List.set_cons_zero, List.set_cons_succ, i64_w, i32_w]
                    rfl
                  refine pure_ (i := 4) (N := some 19) (v := undef) (a' := ?_) #[true, true, true, true, true, false, false, false, false, false, false, false, false, false, false, false, false] rfl rfl (any_of HT_.out (by kernel_rfl)) (fun _ _ _ h => h) (Or.inr ⟨by rfl, rfl⟩) ?_ ?_
                  rotate_left
                  · simp only [Act.put, List.setIfInBounds_toArray, List.set_cons_zero, List.set_cons_succ, i64_w, i32_w]
                    rfl
                  refine pure_ (i := 5) (N := some 20) (v := undef) (a' := ?_) #[true, true, true, true, true, true, false, false, false, false, false, false, false, false, false, false, false] rfl rfl (any_of HT_.out (by kernel_rfl)) (fun _ _ _ h => h) (Or.inr ⟨by rfl, rfl⟩) ?_ ?_
                  rotate_left
                  · simp only [Act.put, List.setIfInBounds_toArray, List.set_cons_zero, List.set_cons_succ, i64_w, i32_w]
                    rfl
                  refine pure_ (i := 6) (N := some 21) (v := ?_) (a' := ?_) #[true, true, true, true, true, true, true, false, false, false, false, false, false, false, false, false, false] rfl rfl (any_of HT_.out (by kernel_rfl)) (fun _ _ _ h => h) (Or.inl ⟨by rfl, ?_⟩) ?_ ?_
                  rotate_left
                  · intro w'
                    go_simp
                    with_reducible rfl
                  rotate_left
                  · simp only [Act.put, List.setIfInBounds_toArray, List.set_cons_zero, List.set_cons_succ, i64_w, i32_w]
                    rfl
                  refine pure_ (i := 7) (N := some 22) (v := ?_) (a' := ?_) #[true, true, true, true, true, true, true, true, false, false, false, false, false, false, false, false, false] rfl rfl (any_of HT_.out (by kernel_rfl)) (fun _ _ _ h => h) (Or.inl ⟨by rfl, ?_⟩) ?_ ?_
                  rotate_left
                  · intro w'
                    go_simp
                    with_reducible rfl
                  rotate_left
                  · simp only [Act.put, List.setIfInBounds_toArray, List.set_cons_zero, List.set_cons_succ, i64_w, i32_w]
                    rfl
                  refine pure_ (i := 8) (N := some 23) (v := undef) (a' := ?_) #[true, true, true, true, true, true, true, true, true, false, false, false, false, false, false, false, false] rfl rfl (any_of HT_.out (by kernel_rfl)) (fun _ _ _ h => h) (Or.inr ⟨by rfl, rfl⟩) ?_ ?_
                  rotate_left
                  · simp only [Act.put, List.setIfInBounds_toArray, List.set_cons_zero, List.set_cons_succ, i64_w, i32_w]
                    rfl
                  refine pure_ (i := 9) (N := some 24) (v := undef) (a' := ?_) #[true, true, true, true, true, true, true, true, true, true, false, false, false, false, false, false, false] rfl rfl (any_of HT_.out (by kernel_rfl)) (fun _ _ _ h => h) (Or.inr ⟨by rfl, rfl⟩) ?_ ?_
                  rotate_left
                  · simp only [Act.put, List.setIfInBounds_toArray, List.set_cons_zero, List.set_cons_succ, i64_w, i32_w]
                    rfl
                  refine pure_ (i := 10) (N := some 25) (v := undef) (a' := ?_) #[true, true, true, true, true, true, true, true, true, true, true, false, false, false, false, false, false] rfl rfl (any_of HT_.out (by kernel_rfl)) (fun _ _ _ h => h) (Or.inr ⟨by rfl, rfl⟩) ?_ ?_
                  rotate_left
                  · simp only [Act.put, List.setIfInBounds_toArray, List.set_cons_zero, List.set_cons_succ, i64_w, i32_w]
                    rfl
                  refine pure_ (i := 11) (N := some 26) (v := undef) (a' := ?_) #[true, true, true, true, true, true, true, true, true, true, true, true, false, false, false, false, false] rfl rfl (any_of HT_.out (by kernel_rfl)) (fun _ _ _ h => h) (Or.inr ⟨by rfl, rfl⟩) ?_ ?_
                  rotate_left
                  · simp only [Act.put, List.setIfInBounds_toArray, List.set_cons_zero, List.set_cons_succ, i64_w, i32_w]
                    rfl
                  refine pure_ (i := 12) (N := some 27) (v := undef) (a' := ?_) #[true, true, true, true, true, true, true, true, true, true, true, true, true, false, false, false, false] rfl rfl (any_of HT_.out (by kernel_rfl)) (fun _ _ _ h => h) (Or.inr ⟨by rfl, rfl⟩) ?_ ?_
                  rotate_left
                  · simp only [Act.put, List.setIfInBounds_toArray, List.set_cons_zero, List.set_cons_succ, i64_w, i32_w]
                    rfl
                  refine pure_ (i := 13) (N := some 28) (v := undef) (a' := ?_) #[true, true, true, true, true, true, true, true, true, true, true, true, true, true, false, false, false] rfl rfl (any_of HT_.out (by kernel_rfl)) (fun _ _ _ h => h) (Or.inr ⟨by rfl, rfl⟩) ?_ ?_
                  rotate_left
                  · simp only [Act.put, List.setIfInBounds_toArray, List.set_cons_zero, List.set_cons_succ, i64_w, i32_w]
                    rfl
                  refine pure_ (i := 14) (N := some 29) (v := undef) (a' := ?_) #[true, true, true, true, true, true, true, true, true, true, true, true, true, true, true, false, false] rfl rfl (any_of HT_.out (by kernel_rfl)) (fun _ _ _ h => h) (Or.inr ⟨by rfl, rfl⟩) ?_ ?_
                  rotate_left
                  · simp only [Act.put, List.setIfInBounds_toArray, List.set_cons_zero, List.set_cons_succ, i64_w, i32_w]
                    rfl
                  refine pure_ (i := 15) (N := some 30) (v := undef) (a' := ?_) #[true, true, true, true, true, true, true, true, true, true, true, true, true, true, true, true, false] rfl rfl (any_of HT_.out (by kernel_rfl)) (fun _ _ _ h => h) (Or.inr ⟨by rfl, rfl⟩) ?_ ?_
                  rotate_left
                  · simp only [Act.put, List.setIfInBounds_toArray, List.set_cons_zero, List.set_cons_succ, i64_w, i32_w]
                    rfl
                  refine pure_ (i := 16) (N := some 31) (v := ?_) (a' := ?_) #[true, true, true, true, true, true, true, true, true, true, true, true, true, true, true, true, true] rfl rfl (any_of HT_.out (by kernel_rfl)) (fun _ _ _ h => h) (Or.inl ⟨by rfl, ?_⟩) ?_ ?_
                  rotate_left
                  · intro w'
                    go_simp
                    with_reducible rfl
                  rotate_left
                  · simp only [Act.put, List.setIfInBounds_toArray, List.set_cons_zero, List.set_cons_succ, i64_w, i32_w]
                    rfl
                  refine done_ (done_of HT_.out (by kernel_rfl)) ?_
                  try go_wp2
                  go_meet
                  case rel => exact ⟨_, (false), (by first | rfl | (simp; done) | (simp [*]; done)), H', ⟨by have := HK1.out; first | omega | exact Nat.le_refl _⟩, ⟨by refine bk (h := ?_); exact BK237.out⟩, ⟨bw⟩⟩
              case rest =>
                clear HC8
                try clear c1
                try clear p2
                try clear q2
                try clear hx2
                try clear c3
                try clear c5
                try clear c5b0
                try clear c6
                try clear c6b0
                try clear c7
                try clear c7b0
                try clear c12
                try clear c13
                try clear c13b0
                try clear c13b1
                try clear c17
                try clear c17b0
                try clear c18
                try clear c18b0
                try clear c18b1
                try clear p23
                try clear q23
                try clear hx23
                try clear q24
                try clear z10_0 z10_1 z10_2 z10_3 z10_4 z10_5 z10_6 z10_7 z10_8 y10_0 y10_1 y10_2 y10_3 y10_4 y10_5 y10_6 y10_7 y10_8
                try clear hx236_0
                try clear hx236_1
                try clear hx236_2
                try clear hx236_3
                try clear hx236_4
                try clear hx236_5
                try clear hx236_6
                try clear hx236_7
                try clear hx236_8
                try clear p2
                try clear p236
                try clear q236
                try clear q24
                obtain ⟨kq, x31_7, rfl, HA, HJ7, BK237, HB⟩ := hcut
                cases kq with
                | zero => exact absurd HA.out (by simp [impl_FirstUnnamed.j1])
                | succ kj7 =>
                  have H := HA.out
                  clear HA
                  simp only [impl_FirstUnnamed.j1] at H
                  by_cases c30 : x31_7 = true
                  · subst c30
                    rw [if_pos rfl] at H
                    obtain rfl := Option.some.inj H
                    go_wp2
                    go_ret
                    exact ⟨er, bw⟩
                  · replace c30 := Bool.eq_false_iff.mpr c30
                    subst c30
                    rw [if_neg nf] at H
                    have H' := Aside0.mk H
                    clear H
                    go_wp2
                    go_roundg kj7
                    case measure => have := HK1.out; have := HJ7.out; omega
                    case rel => exact ⟨(wrap64 (x10_1 + 1)), (by first | rfl | (simp; done) | (simp [*]; done)), H', ⟨by have := HK1.out; have := HJ7.out; omega⟩, ⟨bw⟩⟩
            · rw [if_neg c7] at H
              exact absurd H (by simp)
          · rw [if_neg c6] at H
            exact absurd H (by simp)
        · rw [if_neg c5] at H
          have c5b0 : decide (x10_1 < (l0.length : Int)) = false := decide_eq_false c5
          clear c5
          obtain rfl := Option.some.inj H
          go_wp2
          go_ret
          exact ⟨er, bw⟩
  · replace c3 := Bool.eq_false_iff.mpr c3
    subst c3
    rw [if_neg nf] at H
    obtain rfl := Option.some.inj H
    go_enter Tryd.func34, Tryd.ntmps34
    go_wp2_with (first | ((with_reducible refine gate_callee (f := 18) rfl ?_); refine gl (some 6) Tryd.func18 #[.slice A0 l0.length c0] ?_; (with_reducible refine (impl_ValidProgram.calls k _ _ l0 false _ ?side1 ?side2 A2.out).mono ?_); (case side1 => repeat (first | exact HR0.out | (with_reducible refine Kd.C_alloc ?_ _) | (with_reducible refine Kd.C_drewN ?_ _) | (with_reducible refine Kd.C_drew ?_))); (case side2 => exact HC0.out); rintro e w31 ⟨rfl, hb⟩; refine ⟨_, rfl, ?_⟩; replace HB := bs hb; (try clear hb); (try clear hb2); (try clear hk); (try clear hi)))
    go_ret
    exact ⟨er, bw⟩

end Go.Proofs.YteadienaeapaeaaDoor.PW
