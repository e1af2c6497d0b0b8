-- Made by a program of this session (myprint.py) out of the translation.
import Derived.Test.YteadienaeapaeaaDoorZnoPYx0
import Derived.Test.YteadienaeapaeaaDoorZnoPYx7
import Derived.Test.YteadienaeapaeaaDoorZnoShort
namespace Go.Proofs.YteadienaeapaeaaDoor.PY
open Go.Proofs.YteadienaeapaeaaDoor.Short
open Go.Proofs.YteadienaeapaeaaDoor.Dyn
open Go.RowKit Go.Proofs.YteadienaeapaeaaDoorW.PrintWords Go.Proofs.YteadienaeapaeaaDoorW.PrintLast Go.Proofs.YteadienaeapaeaaDoorW.PrintMore
attribute [local go_sem] max2_int min2_int max_two min_two max_three min_three max_four min_four   -- for this text's walks alone
set_option linter.unusedVariables false
set_option linter.unusedSimpArgs false

/-! ### impl_ValidProgram_1: function 57 -/
def impl_ValidProgram_1.f (k : Nat) (a0_0 : Int) (a0_1 : ByteArray) (a0_2 : Int) (a0_3 : Int) (a0_4 : Int) (a0_5 : Int) (a0_6 : Int) (a0_7 : Int) (a0_8 : Bool) : Option (Bool) := (impl_ValidStep.f k a0_0 a0_1 a0_2 a0_3 a0_4 a0_5 a0_6 a0_7 a0_8).bind fun t166 => (some (!t166))
theorem impl_ValidProgram_1.mono : ∀ a0 a1 a2 a3 a4 a5 a6 a7 a8 k, LeO (impl_ValidProgram_1.f k a0 a1 a2 a3 a4 a5 a6 a7 a8) (impl_ValidProgram_1.f (k + 1) a0 a1 a2 a3 a4 a5 a6 a7 a8) := by
  intro a0 a1 a2 a3 a4 a5 a6 a7 a8 k
  unfold impl_ValidProgram_1.f
  repeat' first
      | (with_reducible exact impl_ValidStep.mono _ _ _ _ _ _ _ _ _ _)
      | (with_reducible exact LeO.refl _)
      | (with_reducible exact LeO.none _)
      | (with_reducible refine LeO.ite ?_ ?_)
      | (with_reducible refine LeO.bind ?_ (fun _ => ?_))
      | exact impl_ValidStep.mono _ _ _ _ _ _ _ _ _ _
      | exact LeO.none _
      | refine LeO.ite ?_ ?_
      | refine LeO.bind ?_ (fun _ => ?_)
set_option maxHeartbeats 8000000 in
set_option maxRecDepth 100000 in
theorem impl_ValidProgram_1.calls (k : Nat) (a0_0 : Int) (a0_1 : ByteArray) (a0_2 : Int) (a0_3 : Int) (a0_4 : Int) (a0_5 : Int) (a0_6 : Int) (a0_7 : Int) (a0_8 : Bool) (r : Bool) (w : World) (h : impl_ValidProgram_1.f k a0_0 a0_1 a0_2 a0_3 a0_4 a0_5 a0_6 a0_7 a0_8 = some r) :
    Calls Tryd.prog 57 #[.agg #[.int .i64 a0_0, .string a0_1, .int .i64 a0_2, .int .i64 a0_3, .int .i64 a0_4, .int .i64 a0_5, .int .i64 a0_6, .int .i64 a0_7, .bool a0_8]] w fun e w' => e = .returned (.bool r) ∧ Below w.heap.size w w' := by
  have hu34 := Tryd.underlying34
  have HB := Aside0.mk (Below.refl w.heap.size w)
  have H : ((impl_ValidStep.f k a0_0 a0_1 a0_2 a0_3 a0_4 a0_5 a0_6 a0_7 a0_8).bind fun t166 => (some (!t166))) = some r := h
  clear h
  replace H := Option.bind_eq_some_iff.mp H
  obtain ⟨t166, A20, H⟩ := H
  replace H : (some (!t166)) = some r := H
  have A2 := Aside0.mk A20
  clear A20
  obtain rfl := Option.some.inj H
  go_enter Tryd.func57, Tryd.ntmps57
  go_wp2_with (first | ((with_reducible refine gate_dst (N := 1) rfl ?_); refine bx #[.int .i64 a0_0, .string a0_1, .int .i64 a0_2, .int .i64 a0_3, .int .i64 a0_4, .int .i64 a0_5, .int .i64 a0_6, .int .i64 a0_7, .bool a0_8] 34 ?_; intro gb165 hg w3 hbox hb; have BK165 := Aside0.mk hbox; have GW165 := bg hg; have GE165 := bg hg; replace HB := bs hb; clear hb hbox hg; obtain ⟨z4_0, z4_1, z4_2, z4_3, z4_4, z4_5, z4_6, z4_7, z4_8, y4_0, y4_1, y4_2, y4_3, y4_4, y4_5, y4_6, y4_7, y4_8⟩ := bq9 BK165) | ((with_reducible refine gate_callee (f := 14) rfl ?_); refine gl (some 4) Tryd.func14 #[.agg #[.int .i64 a0_0, .string a0_1, .int .i64 a0_2, .int .i64 a0_3, .int .i64 a0_4, .int .i64 a0_5, .int .i64 a0_6, .int .i64 a0_7, .bool a0_8]] ?_; (with_reducible refine (impl_ValidStep.calls k a0_0 a0_1 a0_2 a0_3 a0_4 a0_5 a0_6 a0_7 a0_8 t166 _ A2.out).mono ?_); rintro e w5 ⟨rfl, hb⟩; refine ⟨_, rfl, ?_⟩; replace BK165 := bb BK165 hb; replace HB := bs hb; (try clear hb); (try clear hb2); (try clear hk); (try clear hi)))
  go_ret
  exact ⟨er, bw⟩

/-! ### impl_Step_impl_ValidProgram_1_95: function 95 -/
def impl_Step_impl_ValidProgram_1_95.l0 : Nat → List (S34) → Int → Int → Option (Int)
  | 0, _, _, _ => none
  | k + 1, x0, x7, x8 => if x8 < x7 then (if 0 ≤ x8 then (if x8 < (x0.length : Int) then ((impl_ValidProgram_1.f k ((rd_T34 x0 x8).f0) ((rd_T34 x0 x8).f1) ((rd_T34 x0 x8).f2.f0) ((rd_T34 x0 x8).f2.f1.f0) ((rd_T34 x0 x8).f2.f1.f1) ((rd_T34 x0 x8).f2.f1.f2) ((rd_T34 x0 x8).f3) ((rd_T34 x0 x8).f4) ((rd_T34 x0 x8).f5)).bind fun t168 => (if t168 = true then (some x8) else (impl_Step_impl_ValidProgram_1_95.l0 k x0 x7 (wrap64 (x8 + 1))))) else (none)) else (none)) else (some (-1))
def impl_Step_impl_ValidProgram_1_95.f (k : Nat) (l0 : List (S34))  : Option (Int) := impl_Step_impl_ValidProgram_1_95.l0 k l0 (l0.length : Int) 0
theorem impl_Step_impl_ValidProgram_1_95.mono_l : ∀ k, (∀ y0 y1 y2, LeO (impl_Step_impl_ValidProgram_1_95.l0 k y0 y1 y2) (impl_Step_impl_ValidProgram_1_95.l0 (k + 1) y0 y1 y2))
  | 0 => fun _ _ _ r h => by simp [impl_Step_impl_ValidProgram_1_95.l0] at h
  | k + 1 => by
    have ih0 := impl_Step_impl_ValidProgram_1_95.mono_l k
    · intro y0 y1 y2
      unfold impl_Step_impl_ValidProgram_1_95.l0
      repeat' first
      | (with_reducible exact ih0 _ _ _)
      | (with_reducible exact impl_ValidProgram_1.mono _ _ _ _ _ _ _ _ _ _)
      | (with_reducible exact LeO.refl _)
      | (with_reducible exact LeO.none _)
      | (with_reducible refine LeO.ite ?_ ?_)
      | (with_reducible refine LeO.bind ?_ (fun _ => ?_))
      | exact ih0 _ _ _
      | exact impl_ValidProgram_1.mono _ _ _ _ _ _ _ _ _ _
      | exact LeO.none _
      | refine LeO.ite ?_ ?_
      | refine LeO.bind ?_ (fun _ => ?_)
theorem impl_Step_impl_ValidProgram_1_95.mono : ∀ a0 k, LeO (impl_Step_impl_ValidProgram_1_95.f k a0) (impl_Step_impl_ValidProgram_1_95.f (k + 1) a0) := by
  intro a0 k
  have ih0 := impl_Step_impl_ValidProgram_1_95.mono_l k
  unfold impl_Step_impl_ValidProgram_1_95.f
  repeat' first
      | (with_reducible exact ih0 _ _ _)
      | (with_reducible exact impl_ValidProgram_1.mono _ _ _ _ _ _ _ _ _ _)
      | (with_reducible exact LeO.refl _)
      | (with_reducible exact LeO.none _)
      | (with_reducible refine LeO.ite ?_ ?_)
      | (with_reducible refine LeO.bind ?_ (fun _ => ?_))
      | exact ih0 _ _ _
      | exact impl_ValidProgram_1.mono _ _ _ _ _ _ _ _ _ _
      | exact LeO.none _
      | refine LeO.ite ?_ ?_
      | refine LeO.bind ?_ (fun _ => ?_)
set_option maxHeartbeats 8000000 in
set_option maxRecDepth 100000 in
theorem impl_Step_impl_ValidProgram_1_95.calls (k : Nat) (A0 : Option Addr) (c0 : Nat) (l0 : List (S34))  (r : Int) (w : World) (hr0 : Kd.C k34 w A0 l0.length l0) (hc0 : l0.length ≤ c0) (h : impl_Step_impl_ValidProgram_1_95.f k l0 = some r) :
    Calls Tryd.prog 95 #[.slice A0 l0.length c0, .func (.func 57) #[] #[]] w fun e w' => e = .returned (.int .i64 r) ∧ Below w.heap.size w w' := by
  have hu34 := Tryd.underlying34
  have HR0 := Aside0.mk hr0
  have HC0 := Aside0.mk hc0
  clear hr0 hc0
  have HB := Aside0.mk (Below.refl w.heap.size w)
  have H : (impl_Step_impl_ValidProgram_1_95.l0 k l0 (l0.length : Int) 0) = some r := h
  clear h
  have H' := Aside0.mk H
  clear H
  go_enter Tryd.func95, Tryd.ntmps95
  go_wp2
  go_loopg [8] k (fun kq v8 w' => ∃ (x8_1 : Int), v8 = .int .i64 x8_1 ∧ Aside0 (impl_Step_impl_ValidProgram_1_95.l0 kq l0 (l0.length : Int) x8_1 = some r) ∧ Aside0 (kq ≤ k) ∧ Aside0 (Below w.heap.size w w'))
  case atStart => exact ⟨(0), (by first | rfl | (simp; done) | (simp [*]; done)), H', ⟨Nat.le_refl _⟩, ⟨bw⟩⟩
  case round =>
    clear H'
    try clear p2
    obtain ⟨x8_1, rfl, HA, HK1, HB⟩ := hrel
    cases gk with
    | zero => exact absurd HA.out (by simp [impl_Step_impl_ValidProgram_1_95.l0])
    | succ k1 =>
      have H := HA.out
      clear HA
      simp only [impl_Step_impl_ValidProgram_1_95.l0] at H
      by_cases c3 : x8_1 < (l0.length : Int)
      · rw [if_pos c3] at H
        have c3b0 : decide (x8_1 < (l0.length : Int)) = true := decide_eq_true c3
        clear c3
        by_cases c4 : 0 ≤ x8_1
        · rw [if_pos c4] at H
          have c4b0 : decide (0 ≤ x8_1) = true := decide_eq_true c4
          clear c4
          by_cases c5 : x8_1 < (l0.length : Int)
          · rw [if_pos c5] at H
            have c5b0 : decide (x8_1 < (l0.length : Int)) = true := decide_eq_true c5
            clear c5
            replace H := Option.bind_eq_some_iff.mp H
            obtain ⟨t168, A60, H⟩ := H
            replace H : (if t168 = true then (some x8_1) else (impl_Step_impl_ValidProgram_1_95.l0 k1 l0 (l0.length : Int) (wrap64 (x8_1 + 1)))) = some r := H
            have A6 := Aside0.mk A60
            clear A60
            by_cases c7 : t168 = true
            · subst c7
              rw [if_pos rfl] at H
              obtain rfl := Option.some.inj H
              have p167 : 0 ≤ (x8_1 : Int) := od
              have q167 : x8_1 < (l0.length : Int) := od
              obtain ⟨ad167, e167, hx167_0, hx167_1, hx167_2, hx167_3, hx167_4, hx167_5, hx167_6, hx167_7, hx167_8⟩ := at_T34 HR0.out x8_1 p167 q167
              cases e167
              replace hx167_0 := bc hx167_0
              replace hx167_1 := bc hx167_1
              replace hx167_2 := bc hx167_2
              replace hx167_3 := bc hx167_3
              replace hx167_4 := bc hx167_4
              replace hx167_5 := bc hx167_5
              replace hx167_6 := bc hx167_6
              replace hx167_7 := bc hx167_7
              replace hx167_8 := bc hx167_8
              replace p167 := eq_true p167
              replace q167 := eq_true q167
              go_wp2_with (first | ((refine gate_fv (f := 57) rfl (by rfl) ?_); refine goesLV_ (some 16) rfl rfl Tryd.func57 (by kernel_rfl) rfl #[.agg #[.int .i64 ((rd_T34 l0 x8_1).f0), .string ((rd_T34 l0 x8_1).f1), .int .i64 ((rd_T34 l0 x8_1).f2.f0), .int .i64 ((rd_T34 l0 x8_1).f2.f1.f0), .int .i64 ((rd_T34 l0 x8_1).f2.f1.f1), .int .i64 ((rd_T34 l0 x8_1).f2.f1.f2), .int .i64 ((rd_T34 l0 x8_1).f3), .int .i64 ((rd_T34 l0 x8_1).f4), .bool ((rd_T34 l0 x8_1).f5)]] rfl (by rfl) (by (try simp only [List.map_toArray, List.map_cons, List.map_nil]); first | done | rfl | (simp only [List.length_drop, List.length_take]; rfl)) ?_; (with_reducible refine (impl_ValidProgram_1.calls k1 ((rd_T34 l0 x8_1).f0) ((rd_T34 l0 x8_1).f1) ((rd_T34 l0 x8_1).f2.f0) ((rd_T34 l0 x8_1).f2.f1.f0) ((rd_T34 l0 x8_1).f2.f1.f1) ((rd_T34 l0 x8_1).f2.f1.f2) ((rd_T34 l0 x8_1).f3) ((rd_T34 l0 x8_1).f4) ((rd_T34 l0 x8_1).f5) true _ A6.out).mono ?_); rintro e w8 ⟨rfl, hb⟩; refine ⟨_, rfl, ?_⟩; replace HB := bs hb; (try clear hb); (try clear hb2); (try clear hk); (try clear hi)))
              go_ret
              exact ⟨er, bw⟩
            · replace c7 := Bool.eq_false_iff.mpr c7
              subst c7
              rw [if_neg nf] at H
              have H' := Aside0.mk H
              clear H
              have p167 : 0 ≤ (x8_1 : Int) := od
              have q167 : x8_1 < (l0.length : Int) := od
              obtain ⟨ad167, e167, hx167_0, hx167_1, hx167_2, hx167_3, hx167_4, hx167_5, hx167_6, hx167_7, hx167_8⟩ := at_T34 HR0.out x8_1 p167 q167
              cases e167
              replace hx167_0 := bc hx167_0
              replace hx167_1 := bc hx167_1
              replace hx167_2 := bc hx167_2
              replace hx167_3 := bc hx167_3
              replace hx167_4 := bc hx167_4
              replace hx167_5 := bc hx167_5
              replace hx167_6 := bc hx167_6
              replace hx167_7 := bc hx167_7
              replace hx167_8 := bc hx167_8
              replace p167 := eq_true p167
              replace q167 := eq_true q167
              go_wp2_with (first | ((refine gate_fv (f := 57) rfl (by rfl) ?_); refine goesLV_ (some 16) rfl rfl Tryd.func57 (by kernel_rfl) rfl #[.agg #[.int .i64 ((rd_T34 l0 x8_1).f0), .string ((rd_T34 l0 x8_1).f1), .int .i64 ((rd_T34 l0 x8_1).f2.f0), .int .i64 ((rd_T34 l0 x8_1).f2.f1.f0), .int .i64 ((rd_T34 l0 x8_1).f2.f1.f1), .int .i64 ((rd_T34 l0 x8_1).f2.f1.f2), .int .i64 ((rd_T34 l0 x8_1).f3), .int .i64 ((rd_T34 l0 x8_1).f4), .bool ((rd_T34 l0 x8_1).f5)]] rfl (by rfl) (by (try simp only [List.map_toArray, List.map_cons, List.map_nil]); first | done | rfl | (simp only [List.length_drop, List.length_take]; rfl)) ?_; (with_reducible refine (impl_ValidProgram_1.calls k1 ((rd_T34 l0 x8_1).f0) ((rd_T34 l0 x8_1).f1) ((rd_T34 l0 x8_1).f2.f0) ((rd_T34 l0 x8_1).f2.f1.f0) ((rd_T34 l0 x8_1).f2.f1.f1) ((rd_T34 l0 x8_1).f2.f1.f2) ((rd_T34 l0 x8_1).f3) ((rd_T34 l0 x8_1).f4) ((rd_T34 l0 x8_1).f5) false _ A6.out).mono ?_); rintro e w9 ⟨rfl, hb⟩; refine ⟨_, rfl, ?_⟩; replace HB := bs hb; (try clear hb); (try clear hb2); (try clear hk); (try clear hi)))
              go_roundg k1
              case measure => have := HK1.out; omega
              case rel => exact ⟨(wrap64 (x8_1 + 1)), (by first | rfl | (simp; done) | (simp [*]; done)), H', ⟨by have := HK1.out; omega⟩, ⟨bw⟩⟩
          · rw [if_neg c5] at H
            exact absurd H (by simp)
        · rw [if_neg c4] at H
          exact absurd H (by simp)
      · rw [if_neg c3] at H
        have c3b0 : decide (x8_1 < (l0.length : Int)) = false := decide_eq_false c3
        clear c3
        obtain rfl := Option.some.inj H
        go_wp2
        go_ret
        exact ⟨er, bw⟩

/-! ### impl_Step_impl_ValidProgram_1_56: function 56 -/
def impl_Step_impl_ValidProgram_1_56.f (k : Nat) (l0 : List (S34))  : Option (Bool) := (impl_Step_impl_ValidProgram_1_95.f k l0).bind fun t169 => (some (decide (t169 ≥ 0)))
theorem impl_Step_impl_ValidProgram_1_56.mono : ∀ a0 k, LeO (impl_Step_impl_ValidProgram_1_56.f k a0) (impl_Step_impl_ValidProgram_1_56.f (k + 1) a0) := by
  intro a0 k
  unfold impl_Step_impl_ValidProgram_1_56.f
  repeat' first
      | (with_reducible exact impl_Step_impl_ValidProgram_1_95.mono _ _)
      | (with_reducible exact LeO.refl _)
      | (with_reducible exact LeO.none _)
      | (with_reducible refine LeO.ite ?_ ?_)
      | (with_reducible refine LeO.bind ?_ (fun _ => ?_))
      | exact impl_Step_impl_ValidProgram_1_95.mono _ _
      | exact LeO.none _
      | refine LeO.ite ?_ ?_
      | refine LeO.bind ?_ (fun _ => ?_)
set_option maxHeartbeats 8000000 in
set_option maxRecDepth 100000 in
theorem impl_Step_impl_ValidProgram_1_56.calls (k : Nat) (A0 : Option Addr) (c0 : Nat) (l0 : List (S34))  (r : Bool) (w : World) (hr0 : Kd.C k34 w A0 l0.length l0) (hc0 : l0.length ≤ c0) (h : impl_Step_impl_ValidProgram_1_56.f k l0 = some r) :
    Calls Tryd.prog 56 #[.slice A0 l0.length c0, .func (.func 57) #[] #[]] w fun e w' => e = .returned (.bool r) ∧ Below w.heap.size w w' := by
  have HR0 := Aside0.mk hr0
  have HC0 := Aside0.mk hc0
  clear hr0 hc0
  have HB := Aside0.mk (Below.refl w.heap.size w)
  have H : ((impl_Step_impl_ValidProgram_1_95.f k l0).bind fun t169 => (some (decide (t169 ≥ 0)))) = some r := h
  clear h
  replace H := Option.bind_eq_some_iff.mp H
  obtain ⟨t169, A30, H⟩ := H
  replace H : (some (decide (t169 ≥ 0))) = some r := H
  have A3 := Aside0.mk A30
  clear A30
  obtain rfl := Option.some.inj H
  go_enter Tryd.func56, Tryd.ntmps56
  go_wp2_with (first | ((with_reducible refine gate_callee (f := 95) rfl ?_); refine gl (some 7) Tryd.func95 #[.slice A0 l0.length c0, .func (.func 57) #[] #[]] ?_; (with_reducible refine (impl_Step_impl_ValidProgram_1_95.calls k _ _ l0  t169 _ ?side1 ?side2 A3.out).mono ?_); (case side1 => repeat (first | exact HR0.out | (with_reducible refine Kd.C_alloc ?_ _) | (with_reducible refine Kd.C_drewN ?_ _) | (with_reducible refine Kd.C_drew ?_))); (case side2 => exact HC0.out); rintro e w4 ⟨rfl, hb⟩; refine ⟨_, rfl, ?_⟩; replace HB := bs hb; (try clear hb); (try clear hb2); (try clear hk); (try clear hi)))
  go_ret
  exact ⟨er, bw⟩

/-! ### impl_ValidProgram: function 18 -/
def impl_ValidProgram.f (k : Nat) (l0 : List (S34)) : Option (Bool) := if (l0.length : Int) ≤ 30 then ((impl_Step_impl_ValidProgram_1_56.f k l0).bind fun t170 => (some (!t170))) else (some false)
theorem impl_ValidProgram.mono : ∀ a0 k, LeO (impl_ValidProgram.f k a0) (impl_ValidProgram.f (k + 1) a0) := by
  intro a0 k
  unfold impl_ValidProgram.f
  repeat' first
      | (with_reducible exact impl_Step_impl_ValidProgram_1_56.mono _ _)
      | (with_reducible exact LeO.refl _)
      | (with_reducible exact LeO.none _)
      | (with_reducible refine LeO.ite ?_ ?_)
      | (with_reducible refine LeO.bind ?_ (fun _ => ?_))
      | exact impl_Step_impl_ValidProgram_1_56.mono _ _
      | exact LeO.none _
      | refine LeO.ite ?_ ?_
      | refine LeO.bind ?_ (fun _ => ?_)
set_option maxHeartbeats 8000000 in
set_option maxRecDepth 100000 in
theorem impl_ValidProgram.calls (k : Nat) (A0 : Option Addr) (c0 : Nat) (l0 : List (S34)) (r : Bool) (w : World) (hr0 : Kd.C k34 w A0 l0.length l0) (hc0 : l0.length ≤ c0) (h : impl_ValidProgram.f k l0 = some r) :
    Calls Tryd.prog 18 #[.slice A0 l0.length c0] w fun e w' => e = .returned (.bool r) ∧ Below w.heap.size w w' := by
  have HR0 := Aside0.mk hr0
  have HC0 := Aside0.mk hc0
  clear hr0 hc0
  have HB := Aside0.mk (Below.refl w.heap.size w)
  have H : (if (l0.length : Int) ≤ 30 then ((impl_Step_impl_ValidProgram_1_56.f k l0).bind fun t170 => (some (!t170))) else (some false)) = some r := h
  clear h
  by_cases c2 : (l0.length : Int) ≤ 30
  · rw [if_pos c2] at H
    have c2b0 : decide ((l0.length : Int) ≤ 30) = true := decide_eq_true c2
    have c2b1 : decide (l0.length ≤ 30) = true := decide_eq_true (by omega)
    clear c2
    replace H := Option.bind_eq_some_iff.mp H
    obtain ⟨t170, A30, H⟩ := H
    replace H : (some (!t170)) = some r := H
    have A3 := Aside0.mk A30
    clear A30
    obtain rfl := Option.some.inj H
    go_enter Tryd.func18, Tryd.ntmps18
    go_wp2_with (first | (go_at_call 56; (with_reducible refine (impl_Step_impl_ValidProgram_1_56.calls k _ _ l0  t170 _ ?side1 ?side2 A3.out).mono ?_); (case side1 => repeat (first | exact HR0.out | (with_reducible refine Kd.C_alloc ?_ _) | (with_reducible refine Kd.C_drewN ?_ _) | (with_reducible refine Kd.C_drew ?_))); (case side2 => exact HC0.out); rintro e w4 ⟨rfl, hb⟩; replace HB := bs hb; (try clear hb); (try clear hb2); (try clear hk); (try clear hi)))
    go_ret
    exact ⟨er, bw⟩
  · rw [if_neg c2] at H
    have c2b0 : decide ((l0.length : Int) ≤ 30) = false := decide_eq_false c2
    have c2b1 : decide (l0.length ≤ 30) = false := decide_eq_false (by omega)
    clear c2
    obtain rfl := Option.some.inj H
    go_enter Tryd.func18, Tryd.ntmps18
    go_wp2
    go_ret
    exact ⟨er, bw⟩

end Go.Proofs.YteadienaeapaeaaDoor.PY
