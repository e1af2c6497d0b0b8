-- Made by a program of this session (myprint.py) out of the translation.
import Derived.Test.YteadienaeapaeaaDoorZnoPYx0
import Derived.Test.YteadienaeapaeaaDoorZnoPYx1
import Derived.Test.YteadienaeapaeaaDoorZnoPYx2
import Derived.Test.YteadienaeapaeaaDoorZnoPYx4
import Derived.Test.YteadienaeapaeaaDoorZnoPYx5
import Derived.Test.YteadienaeapaeaaDoorZnoPYx6
import Derived.Test.YteadienaeapaeaaDoorZnoShort
namespace Go.Proofs.YteadienaeapaeaaDoor.PY
open Go.Proofs.YteadienaeapaeaaDoor.Short
open Go.Proofs.YteadienaeapaeaaDoor.Dyn
open Go.RowKit Go.Proofs.YteadienaeapaeaaDoorW.PrintWords Go.Proofs.YteadienaeapaeaaDoorW.PrintLast Go.Proofs.YteadienaeapaeaaDoorW.PrintMore
attribute [local go_sem] max2_int min2_int max_two min_two max_three min_three max_four min_four   -- for this text's walks alone
set_option linter.unusedVariables false
set_option linter.unusedSimpArgs false

attribute [local go_sem high] eqA32 eqA34
/-! ### impl_ValidStep: function 14 -/
mutual
def impl_ValidStep.j0 : Nat → Int → Bool → Int → ByteArray → Int → Int → Int → Int → Int → Int → Bool → Option (Bool)
  | 0, _, _, _, _, _, _, _, _, _, _, _ => none
  | k + 1, x7, x8, x154000, x154001, x154002, x154003, x154004, x154005, x154006, x154007, x154008 => if x8 = true then (if x154001.toList = ([] : List UInt8) then ((impl_ValidLine.f x154002 x154003 x154004 x154005).bind fun t154 => (impl_ValidStep.j1 k t154 x154000 x154001 x154002 x154003 x154004 x154005 x154006 x154007 x154008)) else (impl_ValidStep.j1 k false x154000 x154001 x154002 x154003 x154004 x154005 x154006 x154007 x154008)) else (if x7 = 4 then (if (x154000 == 4 && (x154006 == 0 && (x154007 == 0 && (!x154008)))) = true then ((impl_IsName.f k x154001).bind fun t163 => (if t163 = true then ((impl_ValidLine.f x154002 x154003 x154004 x154005).bind fun t164 => (some t164)) else (some false))) else (some false)) else (if x7 = 3 then (impl_ValidStep.j3 k (x7 == 3) x154000 x154001 x154002 x154003 x154004 x154005 x154006 x154007 x154008) else (if x7 = 5 then (impl_ValidStep.j3 k (x7 == 5) x154000 x154001 x154002 x154003 x154004 x154005 x154006 x154007 x154008) else (impl_ValidStep.j3 k (x7 == 6) x154000 x154001 x154002 x154003 x154004 x154005 x154006 x154007 x154008))))
def impl_ValidStep.j1 : Nat → Bool → Int → ByteArray → Int → Int → Int → Int → Int → Int → Bool → Option (Bool)
  | 0, _, _, _, _, _, _, _, _, _, _ => none
  | k + 1, x3, x154000, x154001, x154002, x154003, x154004, x154005, x154006, x154007, x154008 => (impl_IsName.f k x154001).bind fun t155 => (if t155 = true then (impl_ValidStep.j2 k x3 (x154002 == 0 && ((x154003 == 0 && (x154004 == 0 && (x154005 == 0))))) x154000 x154001 x154002 x154003 x154004 x154005 x154006 x154007 x154008) else (impl_ValidStep.j2 k x3 false x154000 x154001 x154002 x154003 x154004 x154005 x154006 x154007 x154008))
def impl_ValidStep.j2 : Nat → Bool → Bool → Int → ByteArray → Int → Int → Int → Int → Int → Int → Bool → Option (Bool)
  | 0, _, _, _, _, _, _, _, _, _, _, _ => none
  | k + 1, x3, x4, x154000, x154001, x154002, x154003, x154004, x154005, x154006, x154007, x154008 => if x154007 = 0 then (if x3 = true then ((impl_isSide.f x154006).bind fun t156 => (if t156 = true then (some true) else (some false))) else (if x4 = true then ((impl_isSide.f x154006).bind fun t157 => (if t157 = true then (some true) else (some false))) else (some false))) else (if x154000 = 2 then ((impl_within.f x154007 0 23).bind fun t158 => (if x3 = true then ((impl_isSide.f x154006).bind fun t159 => (if t159 = true then (some t158) else (some false))) else (if x4 = true then ((impl_isSide.f x154006).bind fun t160 => (if t160 = true then (some t158) else (some false))) else (some false)))) else (if x3 = true then ((impl_isSide.f x154006).bind fun t161 => (if t161 = true then (some false) else (some false))) else (if x4 = true then ((impl_isSide.f x154006).bind fun t162 => (if t162 = true then (some false) else (some false))) else (some false))))
def impl_ValidStep.j3 : Nat → Bool → Int → ByteArray → Int → Int → Int → Int → Int → Int → Bool → Option (Bool)
  | 0, _, _, _, _, _, _, _, _, _, _ => none
  | k + 1, x72, x154000, x154001, x154002, x154003, x154004, x154005, x154006, x154007, x154008 => if x72 = true then (some (x154001.toList == ([] : List UInt8) && ((x154002 == 0 && ((x154003 == 0 && (x154004 == 0 && (x154005 == 0))))) && (x154006 == 0 && (x154007 == 0 && (!x154008)))))) else (some false)
end
def impl_ValidStep.f (k : Nat) (a0_0 : Int) (a0_1 : ByteArray) (a0_2 : Int) (a0_3 : Int) (a0_4 : Int) (a0_5 : Int) (a0_6 : Int) (a0_7 : Int) (a0_8 : Bool) : Option (Bool) := if a0_0 = 1 then (impl_ValidStep.j0 k a0_0 (a0_0 == 1) a0_0 a0_1 a0_2 a0_3 a0_4 a0_5 a0_6 a0_7 a0_8) else (impl_ValidStep.j0 k a0_0 (a0_0 == 2) a0_0 a0_1 a0_2 a0_3 a0_4 a0_5 a0_6 a0_7 a0_8)
theorem impl_ValidStep.mono_l : ∀ k, (∀ y0 y1 y2 y3 y4 y5 y6 y7 y8 y9 y10, LeO (impl_ValidStep.j0 k y0 y1 y2 y3 y4 y5 y6 y7 y8 y9 y10) (impl_ValidStep.j0 (k + 1) y0 y1 y2 y3 y4 y5 y6 y7 y8 y9 y10)) ∧ (∀ y0 y1 y2 y3 y4 y5 y6 y7 y8 y9, LeO (impl_ValidStep.j1 k y0 y1 y2 y3 y4 y5 y6 y7 y8 y9) (impl_ValidStep.j1 (k + 1) y0 y1 y2 y3 y4 y5 y6 y7 y8 y9)) ∧ (∀ y0 y1 y2 y3 y4 y5 y6 y7 y8 y9 y10, LeO (impl_ValidStep.j2 k y0 y1 y2 y3 y4 y5 y6 y7 y8 y9 y10) (impl_ValidStep.j2 (k + 1) y0 y1 y2 y3 y4 y5 y6 y7 y8 y9 y10)) ∧ (∀ y0 y1 y2 y3 y4 y5 y6 y7 y8 y9, LeO (impl_ValidStep.j3 k y0 y1 y2 y3 y4 y5 y6 y7 y8 y9) (impl_ValidStep.j3 (k + 1) y0 y1 y2 y3 y4 y5 y6 y7 y8 y9))
  | 0 => ⟨fun _ _ _ _ _ _ _ _ _ _ _ r h => by simp [impl_ValidStep.j0] at h, fun _ _ _ _ _ _ _ _ _ _ r h => by simp [impl_ValidStep.j1] at h, fun _ _ _ _ _ _ _ _ _ _ _ r h => by simp [impl_ValidStep.j2] at h, fun _ _ _ _ _ _ _ _ _ _ r h => by simp [impl_ValidStep.j3] at h⟩
  | k + 1 => by
    obtain ⟨ih0, ih1, ih2, ih3⟩ := impl_ValidStep.mono_l k
    refine ⟨?_, ?_, ?_, ?_⟩
    · intro y0 y1 y2 y3 y4 y5 y6 y7 y8 y9 y10
      unfold impl_ValidStep.j0
      repeat' first
      | (with_reducible exact ih0 _ _ _ _ _ _ _ _ _ _ _)
      | (with_reducible exact ih1 _ _ _ _ _ _ _ _ _ _)
      | (with_reducible exact ih2 _ _ _ _ _ _ _ _ _ _ _)
      | (with_reducible exact ih3 _ _ _ _ _ _ _ _ _ _)
      | (with_reducible exact impl_IsName.mono _ _)
      | (with_reducible exact LeO.refl _)
      | (with_reducible exact LeO.none _)
      | (with_reducible refine LeO.ite ?_ ?_)
      | (with_reducible refine LeO.bind ?_ (fun _ => ?_))
      | exact ih0 _ _ _ _ _ _ _ _ _ _ _
      | exact ih1 _ _ _ _ _ _ _ _ _ _
      | exact ih2 _ _ _ _ _ _ _ _ _ _ _
      | exact ih3 _ _ _ _ _ _ _ _ _ _
      | exact impl_IsName.mono _ _
      | exact LeO.none _
      | refine LeO.ite ?_ ?_
      | refine LeO.bind ?_ (fun _ => ?_)
    · intro y0 y1 y2 y3 y4 y5 y6 y7 y8 y9
      unfold impl_ValidStep.j1
      repeat' first
      | (with_reducible exact ih0 _ _ _ _ _ _ _ _ _ _ _)
      | (with_reducible exact ih1 _ _ _ _ _ _ _ _ _ _)
      | (with_reducible exact ih2 _ _ _ _ _ _ _ _ _ _ _)
      | (with_reducible exact ih3 _ _ _ _ _ _ _ _ _ _)
      | (with_reducible exact impl_IsName.mono _ _)
      | (with_reducible exact LeO.refl _)
      | (with_reducible exact LeO.none _)
      | (with_reducible refine LeO.ite ?_ ?_)
      | (with_reducible refine LeO.bind ?_ (fun _ => ?_))
      | exact ih0 _ _ _ _ _ _ _ _ _ _ _
      | exact ih1 _ _ _ _ _ _ _ _ _ _
      | exact ih2 _ _ _ _ _ _ _ _ _ _ _
      | exact ih3 _ _ _ _ _ _ _ _ _ _
      | exact impl_IsName.mono _ _
      | exact LeO.none _
      | refine LeO.ite ?_ ?_
      | refine LeO.bind ?_ (fun _ => ?_)
    · intro y0 y1 y2 y3 y4 y5 y6 y7 y8 y9 y10
      unfold impl_ValidStep.j2
      repeat' first
      | (with_reducible exact ih0 _ _ _ _ _ _ _ _ _ _ _)
      | (with_reducible exact ih1 _ _ _ _ _ _ _ _ _ _)
      | (with_reducible exact ih2 _ _ _ _ _ _ _ _ _ _ _)
      | (with_reducible exact ih3 _ _ _ _ _ _ _ _ _ _)
      | (with_reducible exact impl_IsName.mono _ _)
      | (with_reducible exact LeO.refl _)
      | (with_reducible exact LeO.none _)
      | (with_reducible refine LeO.ite ?_ ?_)
      | (with_reducible refine LeO.bind ?_ (fun _ => ?_))
      | exact ih0 _ _ _ _ _ _ _ _ _ _ _
      | exact ih1 _ _ _ _ _ _ _ _ _ _
      | exact ih2 _ _ _ _ _ _ _ _ _ _ _
      | exact ih3 _ _ _ _ _ _ _ _ _ _
      | exact impl_IsName.mono _ _
      | exact LeO.none _
      | refine LeO.ite ?_ ?_
      | refine LeO.bind ?_ (fun _ => ?_)
    · intro y0 y1 y2 y3 y4 y5 y6 y7 y8 y9
      unfold impl_ValidStep.j3
      repeat' first
      | (with_reducible exact ih0 _ _ _ _ _ _ _ _ _ _ _)
      | (with_reducible exact ih1 _ _ _ _ _ _ _ _ _ _)
      | (with_reducible exact ih2 _ _ _ _ _ _ _ _ _ _ _)
      | (with_reducible exact ih3 _ _ _ _ _ _ _ _ _ _)
      | (with_reducible exact impl_IsName.mono _ _)
      | (with_reducible exact LeO.refl _)
      | (with_reducible exact LeO.none _)
      | (with_reducible refine LeO.ite ?_ ?_)
      | (with_reducible refine LeO.bind ?_ (fun _ => ?_))
      | exact ih0 _ _ _ _ _ _ _ _ _ _ _
      | exact ih1 _ _ _ _ _ _ _ _ _ _
      | exact ih2 _ _ _ _ _ _ _ _ _ _ _
      | exact ih3 _ _ _ _ _ _ _ _ _ _
      | exact impl_IsName.mono _ _
      | exact LeO.none _
      | refine LeO.ite ?_ ?_
      | refine LeO.bind ?_ (fun _ => ?_)
theorem impl_ValidStep.mono : ∀ a0 a1 a2 a3 a4 a5 a6 a7 a8 k, LeO (impl_ValidStep.f k a0 a1 a2 a3 a4 a5 a6 a7 a8) (impl_ValidStep.f (k + 1) a0 a1 a2 a3 a4 a5 a6 a7 a8) := by
  intro a0 a1 a2 a3 a4 a5 a6 a7 a8 k
  obtain ⟨ih0, ih1, ih2, ih3⟩ := impl_ValidStep.mono_l k
  unfold impl_ValidStep.f
  repeat' first
      | (with_reducible exact ih0 _ _ _ _ _ _ _ _ _ _ _)
      | (with_reducible exact ih1 _ _ _ _ _ _ _ _ _ _)
      | (with_reducible exact ih2 _ _ _ _ _ _ _ _ _ _ _)
      | (with_reducible exact ih3 _ _ _ _ _ _ _ _ _ _)
      | (with_reducible exact impl_IsName.mono _ _)
      | (with_reducible exact LeO.refl _)
      | (with_reducible exact LeO.none _)
      | (with_reducible refine LeO.ite ?_ ?_)
      | (with_reducible refine LeO.bind ?_ (fun _ => ?_))
      | exact ih0 _ _ _ _ _ _ _ _ _ _ _
      | exact ih1 _ _ _ _ _ _ _ _ _ _
      | exact ih2 _ _ _ _ _ _ _ _ _ _ _
      | exact ih3 _ _ _ _ _ _ _ _ _ _
      | exact impl_IsName.mono _ _
      | exact LeO.none _
      | refine LeO.ite ?_ ?_
      | refine LeO.bind ?_ (fun _ => ?_)
set_option maxHeartbeats 8000000 in
set_option maxRecDepth 100000 in
theorem impl_ValidStep.calls (k : Nat) (a0_0 : Int) (a0_1 : ByteArray) (a0_2 : Int) (a0_3 : Int) (a0_4 : Int) (a0_5 : Int) (a0_6 : Int) (a0_7 : Int) (a0_8 : Bool) (r : Bool) (w : World) (h : impl_ValidStep.f k a0_0 a0_1 a0_2 a0_3 a0_4 a0_5 a0_6 a0_7 a0_8 = some r) :
    Calls Tryd.prog 14 #[.agg #[.int .i64 a0_0, .string a0_1, .int .i64 a0_2, .int .i64 a0_3, .int .i64 a0_4, .int .i64 a0_5, .int .i64 a0_6, .int .i64 a0_7, .bool a0_8]] w fun e w' => e = .returned (.bool r) ∧ Below w.heap.size w w' := by
  have hu34 := Tryd.underlying34
  have hu32 := Tryd.underlying32
  have HB := Aside0.mk (Below.refl w.heap.size w)
  have H : (if a0_0 = 1 then (impl_ValidStep.j0 k a0_0 (a0_0 == 1) a0_0 a0_1 a0_2 a0_3 a0_4 a0_5 a0_6 a0_7 a0_8) else (impl_ValidStep.j0 k a0_0 (a0_0 == 2) a0_0 a0_1 a0_2 a0_3 a0_4 a0_5 a0_6 a0_7 a0_8)) = some r := h
  clear h
  have HC2 := Aside0.mk H
  clear H
  go_enter Tryd.func14, Tryd.ntmps14
  go_upto_if 8 with (first | ((with_reducible refine gate_dst (N := 1) rfl ?_); refine bx #[.int .i64 a0_0, .string a0_1, .int .i64 a0_2, .int .i64 a0_3, .int .i64 a0_4, .int .i64 a0_5, .int .i64 a0_6, .int .i64 a0_7, .bool a0_8] 34 ?_; intro gb153 hg w3 hbox hb; have BK153 := Aside0.mk hbox; have GW153 := bg hg; have GE153 := bg hg; replace HB := bs hb; clear hb hbox hg; obtain ⟨z4_0, z4_1, z4_2, z4_3, z4_4, z4_5, z4_6, z4_7, z4_8, y4_0, y4_1, y4_2, y4_3, y4_4, y4_5, y4_6, y4_7, y4_8⟩ := bq9 BK153))
  (try simp only [Act.put, List.setIfInBounds_toArray, List.set_cons_zero, List.set_cons_succ])
  go_cut [8] (fun v8 wc => ∃ (kq : Nat) (x8_1 : Bool), v8 = .bool x8_1 ∧ Aside0 (impl_ValidStep.j0 kq a0_0 x8_1 a0_0 a0_1 a0_2 a0_3 a0_4 a0_5 a0_6 a0_7 a0_8 = some r) ∧ Aside0 (kq ≤ k) ∧ Aside0 (wc.heap[gb153]? = some (.cells #[.int .i64 a0_0, .string a0_1, .int .i64 a0_2, .int .i64 a0_3, .int .i64 a0_4, .int .i64 a0_5, .int .i64 a0_6, .int .i64 a0_7, .bool a0_8] 34 (0, 0))) ∧ Aside0 (Below w.heap.size w wc))
  case first =>
    have H := HC2.out
    clear HC2
    by_cases c5 : a0_0 = 1
    · rw [if_pos c5] at H
      have c5b0 : (a0_0 == 1) = true := beq_iff_eq.mpr c5
      have c5b1 : (a0_0 != 1) = false := bne_eq_false_iff_eq.mpr c5
      clear c5
      (first | rw [c5b0] | (simp only [i64_w, i32_w]; rw [c5b0]) | skip)
      have H' := Aside0.mk H
      clear H
      go_wp2
      go_meet
      case rel => exact ⟨_, ((a0_0 == 1)), (by first | rfl | (simp; done) | (simp [*]; done)), H', ⟨by first | omega | exact Nat.le_refl _⟩, ⟨by refine bk (h := ?_); exact BK153.out⟩, ⟨bw⟩⟩
    · rw [if_neg c5] at H
      have c5b0 : (a0_0 == 1) = false := beq_eq_false_iff_ne.mpr c5
      have c5b1 : (a0_0 != 1) = true := bne_iff_ne.mpr c5
      (first | rw [c5b0] | (simp only [i64_w, i32_w]; rw [c5b0]) | skip)
      have H' := Aside0.mk H
      clear H
      go_wp2
      go_meet
      case rel => exact ⟨_, ((a0_0 == 2)), (by first | rfl | (simp; done) | (simp [*]; done)), H', ⟨by first | omega | exact Nat.le_refl _⟩, ⟨by refine bk (h := ?_); exact BK153.out⟩, ⟨bw⟩⟩
  case rest =>
    clear HC2
    try clear c1
    try clear p2
    try clear c5
    try clear c5b0
    try clear c5b1
    try clear z4_0 z4_1 z4_2 z4_3 z4_4 z4_5 z4_6 z4_7 z4_8 y4_0 y4_1 y4_2 y4_3 y4_4 y4_5 y4_6 y4_7 y4_8
    obtain ⟨kq, x8_1, rfl, HA, HJ1, BK153, HB⟩ := hcut
    cases kq with
    | zero => exact absurd HA.out (by simp [impl_ValidStep.j0])
    | succ kj1 =>
      have H := HA.out
      clear HA
      simp only [impl_ValidStep.j0] at H
      by_cases c6 : x8_1 = true
      · subst c6
        rw [if_pos rfl] at H
        have HC7 := Aside0.mk H
        clear H
        go_upto_region 4 with (fail)
        go_cut [3] (fun v3 wc => ∃ (kq : Nat) (x3_6 : Bool), v3 = .bool x3_6 ∧ Aside0 (impl_ValidStep.j1 kq x3_6 a0_0 a0_1 a0_2 a0_3 a0_4 a0_5 a0_6 a0_7 a0_8 = some r) ∧ Aside0 (kq ≤ kj1) ∧ Aside0 (wc.heap[gb153]? = some (.cells #[.int .i64 a0_0, .string a0_1, .int .i64 a0_2, .int .i64 a0_3, .int .i64 a0_4, .int .i64 a0_5, .int .i64 a0_6, .int .i64 a0_7, .bool a0_8] 34 (0, 0))) ∧ Aside0 (Below w.heap.size w wc))
        case first =>
          have H := HC7.out
          clear HC7
          by_cases c8 : a0_1.toList = ([] : List UInt8)
          · rw [if_pos c8] at H
            have c8b0 : (a0_1.toList == ([] : List UInt8)) = true := beq_iff_eq.mpr c8
            have c8b1 : (a0_1.toList != ([] : List UInt8)) = false := bne_eq_false_iff_eq.mpr c8
            clear c8
            (first | rw [c8b0] | (simp only [i64_w, i32_w]; rw [c8b0]) | skip)
            replace H := Option.bind_eq_some_iff.mp H
            obtain ⟨t154, A90, H⟩ := H
            replace H : (impl_ValidStep.j1 kj1 t154 a0_0 a0_1 a0_2 a0_3 a0_4 a0_5 a0_6 a0_7 a0_8) = some r := H
            have A9 := Aside0.mk A90
            clear A90
            have H' := Aside0.mk H
            clear H
            obtain ⟨z10_0, z10_1, z10_2, z10_3, z10_4, z10_5, z10_6, z10_7, z10_8, y10_0, y10_1, y10_2, y10_3, y10_4, y10_5, y10_6, y10_7, y10_8⟩ := bq9 BK153
            go_wp2_with (first | (go_at_call 51; (with_reducible refine (impl_ValidLine.calls a0_2 a0_3 a0_4 a0_5 t154 _ A9.out).mono ?_); rintro e w11 ⟨rfl, hb⟩; replace BK153 := bb BK153 hb; replace HB := bs hb; (try clear hb); (try clear hb2); (try clear hk); (try clear hi)))
            go_meet
            case rel => exact ⟨_, (t154), (by first | rfl | (simp; done) | (simp [*]; done)), H', ⟨by have := HJ1.out; first | omega | exact Nat.le_refl _⟩, ⟨by refine bk (h := ?_); exact BK153.out⟩, ⟨bw⟩⟩
          · rw [if_neg c8] at H
            have c8b0 : (a0_1.toList == ([] : List UInt8)) = false := beq_eq_false_iff_ne.mpr c8
            have c8b1 : (a0_1.toList != ([] : List UInt8)) = true := bne_iff_ne.mpr c8
            (first | rw [c8b0] | (simp only [i64_w, i32_w]; rw [c8b0]) | skip)
            have H' := Aside0.mk H
            clear H
            obtain ⟨z12_0, z12_1, z12_2, z12_3, z12_4, z12_5, z12_6, z12_7, z12_8, y12_0, y12_1, y12_2, y12_3, y12_4, y12_5, y12_6, y12_7, y12_8⟩ := bq9 BK153
            go_wp2
            go_meet
            case rel => exact ⟨_, (false), (by first | rfl | (simp; done) | (simp [*]; done)), H', ⟨by have := HJ1.out; first | omega | exact Nat.le_refl _⟩, ⟨by refine bk (h := ?_); exact BK153.out⟩, ⟨bw⟩⟩
        case rest =>
          clear HC7
          try clear c1
          try clear p2
          try clear c5
          try clear c5b0
          try clear c5b1
          try clear c6
          try clear c8
          try clear c8b0
          try clear c8b1
          try clear z10_0 z10_1 z10_2 z10_3 z10_4 z10_5 z10_6 z10_7 z10_8 y10_0 y10_1 y10_2 y10_3 y10_4 y10_5 y10_6 y10_7 y10_8
          try clear z12_0 z12_1 z12_2 z12_3 z12_4 z12_5 z12_6 z12_7 z12_8 y12_0 y12_1 y12_2 y12_3 y12_4 y12_5 y12_6 y12_7 y12_8
          try clear z4_0 z4_1 z4_2 z4_3 z4_4 z4_5 z4_6 z4_7 z4_8 y4_0 y4_1 y4_2 y4_3 y4_4 y4_5 y4_6 y4_7 y4_8
          try clear p2
          obtain ⟨kq, x3_6, rfl, HA, HJ6, BK153, HB⟩ := hcut
          cases kq with
          | zero => exact absurd HA.out (by simp [impl_ValidStep.j1])
          | succ kj6 =>
            have H := HA.out
            clear HA
            simp only [impl_ValidStep.j1] at H
            have HC13 := Aside0.mk H
            clear H
            go_upto_region 5 with (fail)
            go_cut [4] (fun v4 wc => ∃ (kq : Nat) (x4_12 : Bool), v4 = .bool x4_12 ∧ Aside0 (impl_ValidStep.j2 kq x3_6 x4_12 a0_0 a0_1 a0_2 a0_3 a0_4 a0_5 a0_6 a0_7 a0_8 = some r) ∧ Aside0 (kq ≤ kj6) ∧ Aside0 (wc.heap[gb153]? = some (.cells #[.int .i64 a0_0, .string a0_1, .int .i64 a0_2, .int .i64 a0_3, .int .i64 a0_4, .int .i64 a0_5, .int .i64 a0_6, .int .i64 a0_7, .bool a0_8] 34 (0, 0))) ∧ Aside0 (Below w.heap.size w wc))
            case first =>
              have H := HC13.out
              clear HC13
              replace H := Option.bind_eq_some_iff.mp H
              obtain ⟨t155, A140, H⟩ := H
              replace H : (if t155 = true then (impl_ValidStep.j2 kj6 x3_6 (a0_2 == 0 && ((a0_3 == 0 && (a0_4 == 0 && (a0_5 == 0))))) a0_0 a0_1 a0_2 a0_3 a0_4 a0_5 a0_6 a0_7 a0_8) else (impl_ValidStep.j2 kj6 x3_6 false a0_0 a0_1 a0_2 a0_3 a0_4 a0_5 a0_6 a0_7 a0_8)) = some r := H
              have A14 := Aside0.mk A140
              clear A140
              by_cases c15 : t155 = true
              · subst c15
                rw [if_pos rfl] at H
                have H' := Aside0.mk H
                clear H
                obtain ⟨z16_0, z16_1, z16_2, z16_3, z16_4, z16_5, z16_6, z16_7, z16_8, y16_0, y16_1, y16_2, y16_3, y16_4, y16_5, y16_6, y16_7, y16_8⟩ := bq9 BK153
                go_wp2_with (first | ((with_reducible refine gate_callee (f := 52) rfl ?_); refine gl (some 21) Tryd.func52 #[.string a0_1] ?_; (with_reducible refine (impl_IsName.calls kj6 a0_1 true _ A14.out).mono ?_); rintro e w17 ⟨rfl, hb⟩; refine ⟨_, rfl, ?_⟩; replace BK153 := bb BK153 hb; replace HB := bs hb; (try clear hb); (try clear hb2); (try clear hk); (try clear hi); obtain ⟨z18_0, z18_1, z18_2, z18_3, z18_4, z18_5, z18_6, z18_7, z18_8, y18_0, y18_1, y18_2, y18_3, y18_4, y18_5, y18_6, y18_7, y18_8⟩ := bq9 BK153))
                go_meet
                case rel => exact ⟨_, ((a0_2 == 0 && ((a0_3 == 0 && (a0_4 == 0 && (a0_5 == 0)))))), (by first | rfl | (simp; done) | (simp [*]; done)), H', ⟨by have := HJ1.out; have := HJ6.out; first | omega | exact Nat.le_refl _⟩, ⟨by refine bk (h := ?_); exact BK153.out⟩, ⟨bw⟩⟩
              · replace c15 := Bool.eq_false_iff.mpr c15
                subst c15
                rw [if_neg nf] at H
                have H' := Aside0.mk H
                clear H
                obtain ⟨z19_0, z19_1, z19_2, z19_3, z19_4, z19_5, z19_6, z19_7, z19_8, y19_0, y19_1, y19_2, y19_3, y19_4, y19_5, y19_6, y19_7, y19_8⟩ := bq9 BK153
                go_wp2_with (first | ((with_reducible refine gate_callee (f := 52) rfl ?_); refine gl (some 21) Tryd.func52 #[.string a0_1] ?_; (with_reducible refine (impl_IsName.calls kj6 a0_1 false _ A14.out).mono ?_); rintro e w20 ⟨rfl, hb⟩; refine ⟨_, rfl, ?_⟩; replace BK153 := bb BK153 hb; replace HB := bs hb; (try clear hb); (try clear hb2); (try clear hk); (try clear hi)))
                go_meet
                case rel => exact ⟨_, (false), (by first | rfl | (simp; done) | (simp [*]; done)), H', ⟨by have := HJ1.out; have := HJ6.out; first | omega | exact Nat.le_refl _⟩, ⟨by refine bk (h := ?_); exact BK153.out⟩, ⟨bw⟩⟩
            case rest =>
              clear HC13
              try clear c1
              try clear p2
              try clear c5
              try clear c5b0
              try clear c5b1
              try clear c6
              try clear c8
              try clear c8b0
              try clear c8b1
              try clear c14
              try clear c15
              try clear z10_0 z10_1 z10_2 z10_3 z10_4 z10_5 z10_6 z10_7 z10_8 y10_0 y10_1 y10_2 y10_3 y10_4 y10_5 y10_6 y10_7 y10_8
              try clear z12_0 z12_1 z12_2 z12_3 z12_4 z12_5 z12_6 z12_7 z12_8 y12_0 y12_1 y12_2 y12_3 y12_4 y12_5 y12_6 y12_7 y12_8
              try clear z16_0 z16_1 z16_2 z16_3 z16_4 z16_5 z16_6 z16_7 z16_8 y16_0 y16_1 y16_2 y16_3 y16_4 y16_5 y16_6 y16_7 y16_8
              try clear z18_0 z18_1 z18_2 z18_3 z18_4 z18_5 z18_6 z18_7 z18_8 y18_0 y18_1 y18_2 y18_3 y18_4 y18_5 y18_6 y18_7 y18_8
              try clear z19_0 z19_1 z19_2 z19_3 z19_4 z19_5 z19_6 z19_7 z19_8 y19_0 y19_1 y19_2 y19_3 y19_4 y19_5 y19_6 y19_7 y19_8
              try clear z4_0 z4_1 z4_2 z4_3 z4_4 z4_5 z4_6 z4_7 z4_8 y4_0 y4_1 y4_2 y4_3 y4_4 y4_5 y4_6 y4_7 y4_8
              try clear p2
              obtain ⟨kq, x4_12, rfl, HA, HJ12, BK153, HB⟩ := hcut
              cases kq with
              | zero => exact absurd HA.out (by simp [impl_ValidStep.j2])
              | succ kj12 =>
                have H := HA.out
                clear HA
                simp only [impl_ValidStep.j2] at H
                by_cases c21 : a0_7 = 0
                · rw [if_pos c21] at H
                  have c21b0 : (a0_7 == 0) = true := beq_iff_eq.mpr c21
                  have c21b1 : (a0_7 != 0) = false := bne_eq_false_iff_eq.mpr c21
                  clear c21
                  by_cases c22 : x3_6 = true
                  · subst c22
                    rw [if_pos rfl] at H
                    replace H := Option.bind_eq_some_iff.mp H
                    obtain ⟨t156, A230, H⟩ := H
                    replace H : (if t156 = true then (some true) else (some false)) = some r := H
                    have A23 := Aside0.mk A230
                    clear A230
                    by_cases c24 : t156 = true
                    · subst c24
                      rw [if_pos rfl] at H
                      obtain rfl := Option.some.inj H
                      obtain ⟨z25_0, z25_1, z25_2, z25_3, z25_4, z25_5, z25_6, z25_7, z25_8, y25_0, y25_1, y25_2, y25_3, y25_4, y25_5, y25_6, y25_7, y25_8⟩ := bq9 BK153
                      go_wp2_with (first | (go_at_call 54; (with_reducible refine (impl_isSide.calls a0_6 true _ A23.out).mono ?_); rintro e w' ⟨rfl, ⟨nd, rfl⟩⟩))
                      go_ret
                      exact ⟨er, bw⟩
                    · replace c24 := Bool.eq_false_iff.mpr c24
                      subst c24
                      rw [if_neg nf] at H
                      obtain rfl := Option.some.inj H
                      obtain ⟨z26_0, z26_1, z26_2, z26_3, z26_4, z26_5, z26_6, z26_7, z26_8, y26_0, y26_1, y26_2, y26_3, y26_4, y26_5, y26_6, y26_7, y26_8⟩ := bq9 BK153
                      go_wp2_with (first | (go_at_call 54; (with_reducible refine (impl_isSide.calls a0_6 false _ A23.out).mono ?_); rintro e w' ⟨rfl, ⟨nd, rfl⟩⟩))
                      go_ret
                      exact ⟨er, bw⟩
                  · replace c22 := Bool.eq_false_iff.mpr c22
                    subst c22
                    rw [if_neg nf] at H
                    by_cases c27 : x4_12 = true
                    · subst c27
                      rw [if_pos rfl] at H
                      replace H := Option.bind_eq_some_iff.mp H
                      obtain ⟨t157, A280, H⟩ := H
                      replace H : (if t157 = true then (some true) else (some false)) = some r := H
                      have A28 := Aside0.mk A280
                      clear A280
                      by_cases c29 : t157 = true
                      · subst c29
                        rw [if_pos rfl] at H
                        obtain rfl := Option.some.inj H
                        obtain ⟨z30_0, z30_1, z30_2, z30_3, z30_4, z30_5, z30_6, z30_7, z30_8, y30_0, y30_1, y30_2, y30_3, y30_4, y30_5, y30_6, y30_7, y30_8⟩ := bq9 BK153
                        go_wp2_with (first | (go_at_call 54; (with_reducible refine (impl_isSide.calls a0_6 true _ A28.out).mono ?_); rintro e w' ⟨rfl, ⟨nd, rfl⟩⟩))
                        go_ret
                        exact ⟨er, bw⟩
                      · replace c29 := Bool.eq_false_iff.mpr c29
                        subst c29
                        rw [if_neg nf] at H
                        obtain rfl := Option.some.inj H
                        obtain ⟨z31_0, z31_1, z31_2, z31_3, z31_4, z31_5, z31_6, z31_7, z31_8, y31_0, y31_1, y31_2, y31_3, y31_4, y31_5, y31_6, y31_7, y31_8⟩ := bq9 BK153
                        go_wp2_with (first | (go_at_call 54; (with_reducible refine (impl_isSide.calls a0_6 false _ A28.out).mono ?_); rintro e w' ⟨rfl, ⟨nd, rfl⟩⟩))
                        go_ret
                        exact ⟨er, bw⟩
                    · replace c27 := Bool.eq_false_iff.mpr c27
                      subst c27
                      rw [if_neg nf] at H
                      obtain rfl := Option.some.inj H
                      obtain ⟨z32_0, z32_1, z32_2, z32_3, z32_4, z32_5, z32_6, z32_7, z32_8, y32_0, y32_1, y32_2, y32_3, y32_4, y32_5, y32_6, y32_7, y32_8⟩ := bq9 BK153
                      go_wp2
                      go_ret
                      exact ⟨er, bw⟩
                · rw [if_neg c21] at H
                  have c21b0 : (a0_7 == 0) = false := beq_eq_false_iff_ne.mpr c21
                  have c21b1 : (a0_7 != 0) = true := bne_iff_ne.mpr c21
                  by_cases c33 : a0_0 = 2
                  · rw [if_pos c33] at H
                    have c33b0 : (a0_0 == 2) = true := beq_iff_eq.mpr c33
                    have c33b1 : (a0_0 != 2) = false := bne_eq_false_iff_eq.mpr c33
                    clear c33
                    replace H := Option.bind_eq_some_iff.mp H
                    obtain ⟨t158, A340, H⟩ := H
                    replace H : (if x3_6 = true then ((impl_isSide.f a0_6).bind fun t159 => (if t159 = true then (some t158) else (some false))) else (if x4_12 = true then ((impl_isSide.f a0_6).bind fun t160 => (if t160 = true then (some t158) else (some false))) else (some false))) = some r := H
                    have A34 := Aside0.mk A340
                    clear A340
                    by_cases c35 : x3_6 = true
                    · subst c35
                      rw [if_pos rfl] at H
                      replace H := Option.bind_eq_some_iff.mp H
                      obtain ⟨t159, A360, H⟩ := H
                      replace H : (if t159 = true then (some t158) else (some false)) = some r := H
                      have A36 := Aside0.mk A360
                      clear A360
                      by_cases c37 : t159 = true
                      · subst c37
                        rw [if_pos rfl] at H
                        obtain rfl := Option.some.inj H
                        obtain ⟨z38_0, z38_1, z38_2, z38_3, z38_4, z38_5, z38_6, z38_7, z38_8, y38_0, y38_1, y38_2, y38_3, y38_4, y38_5, y38_6, y38_7, y38_8⟩ := bq9 BK153
                        go_wp2_with (first | (go_at_call 53; (with_reducible refine (impl_within.calls a0_7 0 23 t158 _ A34.out).mono ?_); rintro e w' ⟨rfl, ⟨nd, rfl⟩⟩) | (go_at_call 54; (with_reducible refine (impl_isSide.calls a0_6 true _ A36.out).mono ?_); rintro e w' ⟨rfl, ⟨nd, rfl⟩⟩))
                        go_ret
                        exact ⟨er, bw⟩
                      · replace c37 := Bool.eq_false_iff.mpr c37
                        subst c37
                        rw [if_neg nf] at H
                        obtain rfl := Option.some.inj H
                        obtain ⟨z39_0, z39_1, z39_2, z39_3, z39_4, z39_5, z39_6, z39_7, z39_8, y39_0, y39_1, y39_2, y39_3, y39_4, y39_5, y39_6, y39_7, y39_8⟩ := bq9 BK153
                        go_wp2_with (first | (go_at_call 53; (with_reducible refine (impl_within.calls a0_7 0 23 t158 _ A34.out).mono ?_); rintro e w' ⟨rfl, ⟨nd, rfl⟩⟩) | (go_at_call 54; (with_reducible refine (impl_isSide.calls a0_6 false _ A36.out).mono ?_); rintro e w' ⟨rfl, ⟨nd, rfl⟩⟩))
                        go_ret
                        exact ⟨er, bw⟩
                    · replace c35 := Bool.eq_false_iff.mpr c35
                      subst c35
                      rw [if_neg nf] at H
                      by_cases c40 : x4_12 = true
                      · subst c40
                        rw [if_pos rfl] at H
                        replace H := Option.bind_eq_some_iff.mp H
                        obtain ⟨t160, A410, H⟩ := H
                        replace H : (if t160 = true then (some t158) else (some false)) = some r := H
                        have A41 := Aside0.mk A410
                        clear A410
                        by_cases c42 : t160 = true
                        · subst c42
                          rw [if_pos rfl] at H
                          obtain rfl := Option.some.inj H
                          obtain ⟨z43_0, z43_1, z43_2, z43_3, z43_4, z43_5, z43_6, z43_7, z43_8, y43_0, y43_1, y43_2, y43_3, y43_4, y43_5, y43_6, y43_7, y43_8⟩ := bq9 BK153
                          go_wp2_with (first | (go_at_call 53; (with_reducible refine (impl_within.calls a0_7 0 23 t158 _ A34.out).mono ?_); rintro e w' ⟨rfl, ⟨nd, rfl⟩⟩) | (go_at_call 54; (with_reducible refine (impl_isSide.calls a0_6 true _ A41.out).mono ?_); rintro e w' ⟨rfl, ⟨nd, rfl⟩⟩))
                          go_ret
                          exact ⟨er, bw⟩
                        · replace c42 := Bool.eq_false_iff.mpr c42
                          subst c42
                          rw [if_neg nf] at H
                          obtain rfl := Option.some.inj H
                          obtain ⟨z44_0, z44_1, z44_2, z44_3, z44_4, z44_5, z44_6, z44_7, z44_8, y44_0, y44_1, y44_2, y44_3, y44_4, y44_5, y44_6, y44_7, y44_8⟩ := bq9 BK153
                          go_wp2_with (first | (go_at_call 53; (with_reducible refine (impl_within.calls a0_7 0 23 t158 _ A34.out).mono ?_); rintro e w' ⟨rfl, ⟨nd, rfl⟩⟩) | (go_at_call 54; (with_reducible refine (impl_isSide.calls a0_6 false _ A41.out).mono ?_); rintro e w' ⟨rfl, ⟨nd, rfl⟩⟩))
                          go_ret
                          exact ⟨er, bw⟩
                      · replace c40 := Bool.eq_false_iff.mpr c40
                        subst c40
                        rw [if_neg nf] at H
                        obtain rfl := Option.some.inj H
                        obtain ⟨z45_0, z45_1, z45_2, z45_3, z45_4, z45_5, z45_6, z45_7, z45_8, y45_0, y45_1, y45_2, y45_3, y45_4, y45_5, y45_6, y45_7, y45_8⟩ := bq9 BK153
                        go_wp2_with (first | (go_at_call 53; (with_reducible refine (impl_within.calls a0_7 0 23 t158 _ A34.out).mono ?_); rintro e w' ⟨rfl, ⟨nd, rfl⟩⟩))
                        go_ret
                        exact ⟨er, bw⟩
                  · rw [if_neg c33] at H
                    have c33b0 : (a0_0 == 2) = false := beq_eq_false_iff_ne.mpr c33
                    have c33b1 : (a0_0 != 2) = true := bne_iff_ne.mpr c33
                    by_cases c46 : x3_6 = true
                    · subst c46
                      rw [if_pos rfl] at H
                      replace H := Option.bind_eq_some_iff.mp H
                      obtain ⟨t161, A470, H⟩ := H
                      replace H : (if t161 = true then (some false) else (some false)) = some r := H
                      have A47 := Aside0.mk A470
                      clear A470
                      by_cases c48 : t161 = true
                      · subst c48
                        rw [if_pos rfl] at H
                        obtain rfl := Option.some.inj H
                        obtain ⟨z49_0, z49_1, z49_2, z49_3, z49_4, z49_5, z49_6, z49_7, z49_8, y49_0, y49_1, y49_2, y49_3, y49_4, y49_5, y49_6, y49_7, y49_8⟩ := bq9 BK153
                        go_wp2_with (first | (go_at_call 54; (with_reducible refine (impl_isSide.calls a0_6 true _ A47.out).mono ?_); rintro e w' ⟨rfl, ⟨nd, rfl⟩⟩))
                        go_ret
                        exact ⟨er, bw⟩
                      · replace c48 := Bool.eq_false_iff.mpr c48
                        subst c48
                        rw [if_neg nf] at H
                        obtain rfl := Option.some.inj H
                        obtain ⟨z50_0, z50_1, z50_2, z50_3, z50_4, z50_5, z50_6, z50_7, z50_8, y50_0, y50_1, y50_2, y50_3, y50_4, y50_5, y50_6, y50_7, y50_8⟩ := bq9 BK153
                        go_wp2_with (first | (go_at_call 54; (with_reducible refine (impl_isSide.calls a0_6 false _ A47.out).mono ?_); rintro e w' ⟨rfl, ⟨nd, rfl⟩⟩))
                        go_ret
                        exact ⟨er, bw⟩
                    · replace c46 := Bool.eq_false_iff.mpr c46
                      subst c46
                      rw [if_neg nf] at H
                      by_cases c51 : x4_12 = true
                      · subst c51
                        rw [if_pos rfl] at H
                        replace H := Option.bind_eq_some_iff.mp H
                        obtain ⟨t162, A520, H⟩ := H
                        replace H : (if t162 = true then (some false) else (some false)) = some r := H
                        have A52 := Aside0.mk A520
                        clear A520
                        by_cases c53 : t162 = true
                        · subst c53
                          rw [if_pos rfl] at H
                          obtain rfl := Option.some.inj H
                          obtain ⟨z54_0, z54_1, z54_2, z54_3, z54_4, z54_5, z54_6, z54_7, z54_8, y54_0, y54_1, y54_2, y54_3, y54_4, y54_5, y54_6, y54_7, y54_8⟩ := bq9 BK153
                          go_wp2_with (first | (go_at_call 54; (with_reducible refine (impl_isSide.calls a0_6 true _ A52.out).mono ?_); rintro e w' ⟨rfl, ⟨nd, rfl⟩⟩))
                          go_ret
                          exact ⟨er, bw⟩
                        · replace c53 := Bool.eq_false_iff.mpr c53
                          subst c53
                          rw [if_neg nf] at H
                          obtain rfl := Option.some.inj H
                          obtain ⟨z55_0, z55_1, z55_2, z55_3, z55_4, z55_5, z55_6, z55_7, z55_8, y55_0, y55_1, y55_2, y55_3, y55_4, y55_5, y55_6, y55_7, y55_8⟩ := bq9 BK153
                          go_wp2_with (first | (go_at_call 54; (with_reducible refine (impl_isSide.calls a0_6 false _ A52.out).mono ?_); rintro e w' ⟨rfl, ⟨nd, rfl⟩⟩))
                          go_ret
                          exact ⟨er, bw⟩
                      · replace c51 := Bool.eq_false_iff.mpr c51
                        subst c51
                        rw [if_neg nf] at H
                        obtain rfl := Option.some.inj H
                        obtain ⟨z56_0, z56_1, z56_2, z56_3, z56_4, z56_5, z56_6, z56_7, z56_8, y56_0, y56_1, y56_2, y56_3, y56_4, y56_5, y56_6, y56_7, y56_8⟩ := bq9 BK153
                        go_wp2
                        go_ret
                        exact ⟨er, bw⟩
      · replace c6 := Bool.eq_false_iff.mpr c6
        subst c6
        rw [if_neg nf] at H
        by_cases c57 : a0_0 = 4
        · rw [if_pos c57] at H
          have c57b0 : (a0_0 == 4) = true := beq_iff_eq.mpr c57
          have c57b1 : (a0_0 != 4) = false := bne_eq_false_iff_eq.mpr c57
          clear c57
          by_cases c58 : (a0_0 == 4 && (a0_6 == 0 && (a0_7 == 0 && (!a0_8)))) = true
          · rw [if_pos c58] at H
            have c58b0 : (a0_0 == 4 && (a0_6 == 0 && (a0_7 == 0 && (!a0_8)))) = true := c58
            (try (have c58s := c58; simp only [c57b0, Bool.true_and, Bool.and_eq_true, beq_iff_eq, Bool.not_eq_true'] at c58s; replace c58s := eq_true c58s))
            (try (have c58b1 : decide (a0_0 = 4 && (a0_6 == 0 && (a0_7 == 0 && (!a0_8)))) = true := by simpa using c58))
            (try (have c58b2 : (a0_0 == 4 && (a0_6 == 0 && (a0_7 == 0 && (!a0_8)))) = true := by simpa using c58))
            clear c58
            replace H := Option.bind_eq_some_iff.mp H
            obtain ⟨t163, A590, H⟩ := H
            replace H : (if t163 = true then ((impl_ValidLine.f a0_2 a0_3 a0_4 a0_5).bind fun t164 => (some t164)) else (some false)) = some r := H
            have A59 := Aside0.mk A590
            clear A590
            by_cases c60 : t163 = true
            · subst c60
              rw [if_pos rfl] at H
              replace H := Option.bind_eq_some_iff.mp H
              obtain ⟨t164, A610, H⟩ := H
              replace H : (some t164) = some r := H
              have A61 := Aside0.mk A610
              clear A610
              obtain rfl := Option.some.inj H
              obtain ⟨z62_0, z62_1, z62_2, z62_3, z62_4, z62_5, z62_6, z62_7, z62_8, y62_0, y62_1, y62_2, y62_3, y62_4, y62_5, y62_6, y62_7, y62_8⟩ := bq9 BK153
              go_wp2_with (first | (go_at_call 52; (with_reducible refine (impl_IsName.calls kj1 a0_1 true _ A59.out).mono ?_); rintro e w63 ⟨rfl, hb⟩; replace BK153 := bb BK153 hb; replace HB := bs hb; (try clear hb); (try clear hb2); (try clear hk); (try clear hi); obtain ⟨z64_0, z64_1, z64_2, z64_3, z64_4, z64_5, z64_6, z64_7, z64_8, y64_0, y64_1, y64_2, y64_3, y64_4, y64_5, y64_6, y64_7, y64_8⟩ := bq9 BK153) | (go_at_call 51; (with_reducible refine (impl_ValidLine.calls a0_2 a0_3 a0_4 a0_5 t164 _ A61.out).mono ?_); rintro e w65 ⟨rfl, hb⟩; replace BK153 := bb BK153 hb; replace HB := bs hb; (try clear hb); (try clear hb2); (try clear hk); (try clear hi)))
              go_ret
              exact ⟨er, bw⟩
            · replace c60 := Bool.eq_false_iff.mpr c60
              subst c60
              rw [if_neg nf] at H
              obtain rfl := Option.some.inj H
              obtain ⟨z66_0, z66_1, z66_2, z66_3, z66_4, z66_5, z66_6, z66_7, z66_8, y66_0, y66_1, y66_2, y66_3, y66_4, y66_5, y66_6, y66_7, y66_8⟩ := bq9 BK153
              go_wp2_with (first | (go_at_call 52; (with_reducible refine (impl_IsName.calls kj1 a0_1 false _ A59.out).mono ?_); rintro e w67 ⟨rfl, hb⟩; replace BK153 := bb BK153 hb; replace HB := bs hb; (try clear hb); (try clear hb2); (try clear hk); (try clear hi)))
              go_ret
              exact ⟨er, bw⟩
          · rw [if_neg c58] at H
            have c58b0 : (a0_0 == 4 && (a0_6 == 0 && (a0_7 == 0 && (!a0_8)))) = false := by simpa using c58
            (try (have c58s := c58; simp only [c57b0, Bool.true_and, Bool.and_eq_true, beq_iff_eq, Bool.not_eq_true'] at c58s; replace c58s := eq_false c58s))
            (try (have c58b1 : decide (a0_0 = 4 && (a0_6 == 0 && (a0_7 == 0 && (!a0_8)))) = false := by simpa using c58))
            (try (have c58b2 : (a0_0 == 4 && (a0_6 == 0 && (a0_7 == 0 && (!a0_8)))) = false := by simpa using c58))
            (try (have c58b3 : ¬ (a0_0 = 4 && (a0_6 == 0 && (a0_7 == 0 && (!a0_8)))) := by simpa using c58))
            clear c58
            obtain rfl := Option.some.inj H
            obtain ⟨z68_0, z68_1, z68_2, z68_3, z68_4, z68_5, z68_6, z68_7, z68_8, y68_0, y68_1, y68_2, y68_3, y68_4, y68_5, y68_6, y68_7, y68_8⟩ := bq9 BK153
            go_wp2
            go_ret
            exact ⟨er, bw⟩
        · rw [if_neg c57] at H
          have c57b0 : (a0_0 == 4) = false := beq_eq_false_iff_ne.mpr c57
          have c57b1 : (a0_0 != 4) = true := bne_iff_ne.mpr c57
          have HC69 := Aside0.mk H
          clear H
          go_upto_if 72 with (fail)
          go_cut [72] (fun v72 wc => ∃ (kq : Nat) (x72_68 : Bool), v72 = .bool x72_68 ∧ Aside0 (impl_ValidStep.j3 kq x72_68 a0_0 a0_1 a0_2 a0_3 a0_4 a0_5 a0_6 a0_7 a0_8 = some r) ∧ Aside0 (kq ≤ kj1) ∧ Aside0 (wc.heap[gb153]? = some (.cells #[.int .i64 a0_0, .string a0_1, .int .i64 a0_2, .int .i64 a0_3, .int .i64 a0_4, .int .i64 a0_5, .int .i64 a0_6, .int .i64 a0_7, .bool a0_8] 34 (0, 0))) ∧ Aside0 (Below w.heap.size w wc))
          case first =>
            have H := HC69.out
            clear HC69
            by_cases c70 : a0_0 = 3
            · rw [if_pos c70] at H
              have c70b0 : (a0_0 == 3) = true := beq_iff_eq.mpr c70
              have c70b1 : (a0_0 != 3) = false := bne_eq_false_iff_eq.mpr c70
              clear c70
              (first | rw [c70b0] | (simp only [i64_w, i32_w]; rw [c70b0]) | skip)
              have H' := Aside0.mk H
              clear H
              go_wp2
              go_meet
              case rel => exact ⟨_, ((a0_0 == 3)), (by first | rfl | (simp; done) | (simp [*]; done)), H', ⟨by have := HJ1.out; first | omega | exact Nat.le_refl _⟩, ⟨by refine bk (h := ?_); exact BK153.out⟩, ⟨bw⟩⟩
            · rw [if_neg c70] at H
              have c70b0 : (a0_0 == 3) = false := beq_eq_false_iff_ne.mpr c70
              have c70b1 : (a0_0 != 3) = true := bne_iff_ne.mpr c70
              (first | rw [c70b0] | (simp only [i64_w, i32_w]; rw [c70b0]) | skip)
              by_cases c71 : a0_0 = 5
              · rw [if_pos c71] at H
                have c71b0 : (a0_0 == 5) = true := beq_iff_eq.mpr c71
                have c71b1 : (a0_0 != 5) = false := bne_eq_false_iff_eq.mpr c71
                clear c71
                have H' := Aside0.mk H
                clear H
                go_wp2
                go_meet
                case rel => exact ⟨_, ((a0_0 == 5)), (by first | rfl | (simp; done) | (simp [*]; done)), H', ⟨by have := HJ1.out; first | omega | exact Nat.le_refl _⟩, ⟨by refine bk (h := ?_); exact BK153.out⟩, ⟨bw⟩⟩
              · rw [if_neg c71] at H
                have c71b0 : (a0_0 == 5) = false := beq_eq_false_iff_ne.mpr c71
                have c71b1 : (a0_0 != 5) = true := bne_iff_ne.mpr c71
                have H' := Aside0.mk H
                clear H
                go_wp2
                go_meet
                case rel => exact ⟨_, ((a0_0 == 6)), (by first | rfl | (simp; done) | (simp [*]; done)), H', ⟨by have := HJ1.out; first | omega | exact Nat.le_refl _⟩, ⟨by refine bk (h := ?_); exact BK153.out⟩, ⟨bw⟩⟩
          case rest =>
            clear HC69
            try clear c2
            try clear p2
            try clear c3
            try clear c4
            try clear c5
            try clear c6
            try clear c7
            try clear c21
            try clear c21b0
            try clear c21b1
            try clear c27
            try clear c29
            try clear c33
            try clear c33b0
            try clear c33b1
            try clear c35
            try clear c37
            try clear c40
            try clear c42
            try clear c46
            try clear c48
            try clear c51
            try clear c53
            try clear c57
            try clear c57b0
            try clear c57b1
            try clear c58
            try clear c58b0
            try clear c58b1
            try clear c58b2
            try clear c60
            try clear c70
            try clear c70b0
            try clear c70b1
            try clear c71
            try clear c71b0
            try clear c71b1
            try clear z30_0 z30_1 z30_2 z30_3 z30_4 z30_5 z30_6 z30_7 z30_8 y30_0 y30_1 y30_2 y30_3 y30_4 y30_5 y30_6 y30_7 y30_8
            try clear z31_0 z31_1 z31_2 z31_3 z31_4 z31_5 z31_6 z31_7 z31_8 y31_0 y31_1 y31_2 y31_3 y31_4 y31_5 y31_6 y31_7 y31_8
            try clear z32_0 z32_1 z32_2 z32_3 z32_4 z32_5 z32_6 z32_7 z32_8 y32_0 y32_1 y32_2 y32_3 y32_4 y32_5 y32_6 y32_7 y32_8
            try clear z38_0 z38_1 z38_2 z38_3 z38_4 z38_5 z38_6 z38_7 z38_8 y38_0 y38_1 y38_2 y38_3 y38_4 y38_5 y38_6 y38_7 y38_8
            try clear z39_0 z39_1 z39_2 z39_3 z39_4 z39_5 z39_6 z39_7 z39_8 y39_0 y39_1 y39_2 y39_3 y39_4 y39_5 y39_6 y39_7 y39_8
            try clear z43_0 z43_1 z43_2 z43_3 z43_4 z43_5 z43_6 z43_7 z43_8 y43_0 y43_1 y43_2 y43_3 y43_4 y43_5 y43_6 y43_7 y43_8
            try clear z44_0 z44_1 z44_2 z44_3 z44_4 z44_5 z44_6 z44_7 z44_8 y44_0 y44_1 y44_2 y44_3 y44_4 y44_5 y44_6 y44_7 y44_8
            try clear z45_0 z45_1 z45_2 z45_3 z45_4 z45_5 z45_6 z45_7 z45_8 y45_0 y45_1 y45_2 y45_3 y45_4 y45_5 y45_6 y45_7 y45_8
            try clear z49_0 z49_1 z49_2 z49_3 z49_4 z49_5 z49_6 z49_7 z49_8 y49_0 y49_1 y49_2 y49_3 y49_4 y49_5 y49_6 y49_7 y49_8
            try clear z50_0 z50_1 z50_2 z50_3 z50_4 z50_5 z50_6 z50_7 z50_8 y50_0 y50_1 y50_2 y50_3 y50_4 y50_5 y50_6 y50_7 y50_8
            try clear z54_0 z54_1 z54_2 z54_3 z54_4 z54_5 z54_6 z54_7 z54_8 y54_0 y54_1 y54_2 y54_3 y54_4 y54_5 y54_6 y54_7 y54_8
            try clear z55_0 z55_1 z55_2 z55_3 z55_4 z55_5 z55_6 z55_7 z55_8 y55_0 y55_1 y55_2 y55_3 y55_4 y55_5 y55_6 y55_7 y55_8
            try clear z56_0 z56_1 z56_2 z56_3 z56_4 z56_5 z56_6 z56_7 z56_8 y56_0 y56_1 y56_2 y56_3 y56_4 y56_5 y56_6 y56_7 y56_8
            try clear z62_0 z62_1 z62_2 z62_3 z62_4 z62_5 z62_6 z62_7 z62_8 y62_0 y62_1 y62_2 y62_3 y62_4 y62_5 y62_6 y62_7 y62_8
            try clear z64_0 z64_1 z64_2 z64_3 z64_4 z64_5 z64_6 z64_7 z64_8 y64_0 y64_1 y64_2 y64_3 y64_4 y64_5 y64_6 y64_7 y64_8
            try clear z66_0 z66_1 z66_2 z66_3 z66_4 z66_5 z66_6 z66_7 z66_8 y66_0 y66_1 y66_2 y66_3 y66_4 y66_5 y66_6 y66_7 y66_8
            try clear z68_0 z68_1 z68_2 z68_3 z68_4 z68_5 z68_6 z68_7 z68_8 y68_0 y68_1 y68_2 y68_3 y68_4 y68_5 y68_6 y68_7 y68_8
            obtain ⟨kq, x72_68, rfl, HA, HJ68, BK153, HB⟩ := hcut
            cases kq with
            | zero => exact absurd HA.out (by simp [impl_ValidStep.j3])
            | succ kj68 =>
              have H := HA.out
              clear HA
              simp only [impl_ValidStep.j3] at H
              by_cases c72 : x72_68 = true
              · subst c72
                rw [if_pos rfl] at H
                obtain rfl := Option.some.inj H
                obtain ⟨z73_0, z73_1, z73_2, z73_3, z73_4, z73_5, z73_6, z73_7, z73_8, y73_0, y73_1, y73_2, y73_3, y73_4, y73_5, y73_6, y73_7, y73_8⟩ := bq9 BK153
                go_wp2
                go_ret
                exact ⟨er, bw⟩
              · replace c72 := Bool.eq_false_iff.mpr c72
                subst c72
                rw [if_neg nf] at H
                obtain rfl := Option.some.inj H
                go_wp2
                go_ret
                exact ⟨er, bw⟩

end Go.Proofs.YteadienaeapaeaaDoor.PY
