-- Made by a program of this session (myprint.py) out of the translation.
import Derived.Test.YteadienaeapaeaaZsrPCx0
import Derived.Test.YteadienaeapaeaaZsrPCx2
import Derived.Test.YteadienaeapaeaaZsrPCx4
import Derived.Test.YteadienaeapaeaaZsrShort
namespace Go.Proofs.Yteadienaeapaeaa.PC
open Go.Proofs.Yteadienaeapaeaa.Short
open Go.Proofs.Yteadienaeapaeaa.Dyn
open Go.RowKit Go.Proofs.YteadienaeapaeaaW.PrintWords Go.Proofs.YteadienaeapaeaaW.PrintLast Go.Proofs.YteadienaeapaeaaW.PrintMore
attribute [local go_sem] max2_int min2_int max_two min_two max_three min_three max_four min_four   -- for this text's walks alone
set_option linter.unusedVariables false
set_option linter.unusedSimpArgs false

attribute [local go_sem high] eqA118
/-! ### spec_l00Same: function 133 -/
def spec_l00Same.l0 : Nat → List Int → List Int → Int → Option (Bool)
  | 0, _, _, _ => none
  | k + 1, x0, x1, x5 => if x5 < (x0.length : Int) then (if 0 ≤ x5 then (if x5 < (x1.length : Int) then (if (rd x0 x5) = (rd x1 x5) then (spec_l00Same.l0 k x0 x1 (wrap64 (x5 + 1))) else (some false)) else (none)) else (none)) else (some true)
def spec_l00Same.f (k : Nat) (l0 : List Int) (l1 : List Int) : Option (Bool) := if (l0.length : Int) = (l1.length : Int) then (spec_l00Same.l0 k l0 l1 0) else (some false)
theorem spec_l00Same.mono_l : ∀ k, (∀ y0 y1 y2, LeO (spec_l00Same.l0 k y0 y1 y2) (spec_l00Same.l0 (k + 1) y0 y1 y2))
  | 0 => fun _ _ _ r h => by simp [spec_l00Same.l0] at h
  | k + 1 => by
    have ih0 := spec_l00Same.mono_l k
    · intro y0 y1 y2
      unfold spec_l00Same.l0
      repeat' first
      | (with_reducible exact ih0 _ _ _)
      | (with_reducible exact LeO.refl _)
      | (with_reducible exact LeO.none _)
      | (with_reducible refine LeO.ite ?_ ?_)
      | (with_reducible refine LeO.bind ?_ (fun _ => ?_))
      | exact ih0 _ _ _
      | exact LeO.none _
      | refine LeO.ite ?_ ?_
      | refine LeO.bind ?_ (fun _ => ?_)
theorem spec_l00Same.mono : ∀ a0 a1 k, LeO (spec_l00Same.f k a0 a1) (spec_l00Same.f (k + 1) a0 a1) := by
  intro a0 a1 k
  have ih0 := spec_l00Same.mono_l k
  unfold spec_l00Same.f
  repeat' first
      | (with_reducible exact ih0 _ _ _)
      | (with_reducible exact LeO.refl _)
      | (with_reducible exact LeO.none _)
      | (with_reducible refine LeO.ite ?_ ?_)
      | (with_reducible refine LeO.bind ?_ (fun _ => ?_))
      | exact ih0 _ _ _
      | exact LeO.none _
      | refine LeO.ite ?_ ?_
      | refine LeO.bind ?_ (fun _ => ?_)
set_option maxHeartbeats 8000000 in
set_option maxRecDepth 100000 in
theorem spec_l00Same.calls (k : Nat) (A0 : Option Addr) (c0 : Nat) (l0 : List Int) (A1 : Option Addr) (c1 : Nat) (l1 : List Int) (r : Bool) (w : World) (hr0 : Kd.C (Kd.int .i64) w A0 l0.length l0) (hc0 : l0.length ≤ c0) (hr1 : Kd.C (Kd.int .i64) w A1 l1.length l1) (hc1 : l1.length ≤ c1) (h : spec_l00Same.f k l0 l1 = some r) :
    Calls Try.prog 133 #[.slice A0 l0.length c0, .slice A1 l1.length c1] w fun e w' => e = .returned (.bool r) ∧ Drawn0 w w' := by
  have HR0 := Aside0.mk hr0
  have HC0 := Aside0.mk hc0
  clear hr0 hc0
  have HR1 := Aside0.mk hr1
  have HC1 := Aside0.mk hc1
  clear hr1 hc1
  have H : (if (l0.length : Int) = (l1.length : Int) then (spec_l00Same.l0 k l0 l1 0) else (some false)) = some r := h
  clear h
  by_cases c3 : (l0.length : Int) = (l1.length : Int)
  · rw [if_pos c3] at H
    have c3b0 : ((l0.length : Int) == (l1.length : Int)) = true := beq_iff_eq.mpr c3
    have c3b1 : ((l0.length : Int) != (l1.length : Int)) = false := bne_eq_false_iff_eq.mpr c3
    have c3b2 : (l0.length == l1.length) = true := by first | simpa using c3 | (simp at c3 ⊢; omega)
    clear c3
    have H' := Aside0.mk H
    clear H
    go_enter Try.func133, Try.ntmps133
    go_wp2
    repeat (go_quiet (fail); try go_wp2)
    go_loopg [5] k (fun kq v5 w' => ∃ (x5_1 : Int), v5 = .int .i64 x5_1 ∧ Aside0 (spec_l00Same.l0 kq l0 l1 x5_1 = some r) ∧ Aside0 (kq ≤ k) ∧ Drawn0 w w')
    case atStart => exact ⟨(0), (by first | rfl | (simp; done) | (simp [*]; done)), H', ⟨Nat.le_refl _⟩, by repeat (first | exact Drawn0.refl _ | apply Drawn0.step)⟩
    case round =>
      clear H'
      try clear c1
      try clear p2
      try clear c3
      try clear c3b0
      try clear c3b1
      try clear c3b2
      obtain ⟨x5_1, rfl, HA, HK1, ⟨m1, rfl⟩⟩ := hrel
      cases gk with
      | zero => exact absurd HA.out (by simp [spec_l00Same.l0])
      | succ k1 =>
        have H := HA.out
        clear HA
        simp only [spec_l00Same.l0] at H
        by_cases c4 : x5_1 < (l0.length : Int)
        · rw [if_pos c4] at H
          have c4b0 : decide (x5_1 < (l0.length : Int)) = true := decide_eq_true c4
          clear c4
          by_cases c5 : 0 ≤ x5_1
          · rw [if_pos c5] at H
            have c5b0 : decide (0 ≤ x5_1) = true := decide_eq_true c5
            clear c5
            by_cases c6 : x5_1 < (l1.length : Int)
            · rw [if_pos c6] at H
              have c6b0 : decide (x5_1 < (l1.length : Int)) = true := decide_eq_true c6
              clear c6
              by_cases c7 : (rd l0 x5_1) = (rd l1 x5_1)
              · rw [if_pos c7] at H
                have c7b0 : ((rd l0 x5_1) == (rd l1 x5_1)) = true := beq_iff_eq.mpr c7
                have c7b1 : ((rd l0 x5_1) != (rd l1 x5_1)) = false := bne_eq_false_iff_eq.mpr c7
                clear c7
                have H' := Aside0.mk H
                clear H
                have p119 : 0 ≤ (x5_1 : Int) := od
                have q119 : x5_1 < (l0.length : Int) := od
                obtain ⟨ad119, e119, hx119_0⟩ := Kd.at_int HR0.out x5_1 p119 q119
                cases e119
                replace p119 := eq_true p119
                replace q119 := eq_true q119
                have p120 : 0 ≤ (x5_1 : Int) := od
                have q120 : x5_1 < (l1.length : Int) := od
                obtain ⟨ad120, e120, hx120_0⟩ := Kd.at_int HR1.out x5_1 p120 q120
                cases e120
                replace p120 := eq_true p120
                replace q120 := eq_true q120
                go_wp2
                repeat (go_quiet (fail); try go_wp2)
                go_roundg k1
                case measure => have := HK1.out; omega
                case rel => exact ⟨(wrap64 (x5_1 + 1)), (by first | rfl | (simp; done) | (simp [*]; done)), H', ⟨by have := HK1.out; omega⟩, by repeat (first | exact Drawn0.refl _ | apply Drawn0.step)⟩
              · rw [if_neg c7] at H
                have c7b0 : ((rd l0 x5_1) == (rd l1 x5_1)) = false := beq_eq_false_iff_ne.mpr c7
                have c7b1 : ((rd l0 x5_1) != (rd l1 x5_1)) = true := bne_iff_ne.mpr c7
                obtain rfl := Option.some.inj H
                have p119 : 0 ≤ (x5_1 : Int) := od
                have q119 : x5_1 < (l0.length : Int) := od
                obtain ⟨ad119, e119, hx119_0⟩ := Kd.at_int HR0.out x5_1 p119 q119
                cases e119
                replace p119 := eq_true p119
                replace q119 := eq_true q119
                have p120 : 0 ≤ (x5_1 : Int) := od
                have q120 : x5_1 < (l1.length : Int) := od
                obtain ⟨ad120, e120, hx120_0⟩ := Kd.at_int HR1.out x5_1 p120 q120
                cases e120
                replace p120 := eq_true p120
                replace q120 := eq_true q120
                go_wp2
                repeat (go_quiet (fail); try go_wp2)
                go_ret
                exact ⟨by first | rfl | (simp; done) | (simp [*]; done), by repeat (first | exact Drawn0.refl _ | apply Drawn0.step)⟩
            · rw [if_neg c6] at H
              exact absurd H (by simp)
          · rw [if_neg c5] at H
            exact absurd H (by simp)
        · rw [if_neg c4] at H
          have c4b0 : decide (x5_1 < (l0.length : Int)) = false := decide_eq_false c4
          clear c4
          obtain rfl := Option.some.inj H
          go_wp2
          repeat (go_quiet (fail); try go_wp2)
          go_ret
          exact ⟨by first | rfl | (simp; done) | (simp [*]; done), by repeat (first | exact Drawn0.refl _ | apply Drawn0.step)⟩
  · rw [if_neg c3] at H
    have c3b0 : ((l0.length : Int) == (l1.length : Int)) = false := beq_eq_false_iff_ne.mpr c3
    have c3b1 : ((l0.length : Int) != (l1.length : Int)) = true := bne_iff_ne.mpr c3
    have c3b2 : (l0.length == l1.length) = false := by first | simpa using c3 | (simp at c3 ⊢; omega)
    obtain rfl := Option.some.inj H
    go_enter Try.func133, Try.ntmps133
    go_wp2
    repeat (go_quiet (fail); try go_wp2)
    go_ret
    exact ⟨by first | rfl | (simp; done) | (simp [*]; done), by repeat (first | exact Drawn0.refl _ | apply Drawn0.step)⟩

/-! ### spec_SameState: function 65 -/
mutual
def spec_SameState.j0 : Nat → Bool → List (S130) → List (S121) → List Int → List (S130) → List (S121) → List Int → Option (Bool)
  | 0, _, _, _, _, _, _, _ => none
  | k + 1, x28, x122000, x122001, x122002, x123000, x123001, x123002 => if x28 = true then (some false) else (spec_SameState.l0 k 0 x122000 x122001 x122002 x123000 x123001 x123002)
def spec_SameState.l0 : Nat → Int → List (S130) → List (S121) → List Int → List (S130) → List (S121) → List Int → Option (Bool)
  | 0, _, _, _, _, _, _, _ => none
  | k + 1, x5, x122000, x122001, x122002, x123000, x123001, x123002 => if x5 < (x122001.length : Int) then (if 0 ≤ x5 then (if x5 < (x123001.length : Int) then ((spec_l03Same.f k ((rd_T121 x122001 x5).f0) ((rd_T121 x123001 x5).f0)).bind fun t127 => (if t127 = true then (spec_SameState.j2 k x5 (!(((rd_T121 x122001 x5).f1.f0) == ((rd_T121 x123001 x5).f1.f0)) || (!(((rd_T121 x122001 x5).f1.f1) == ((rd_T121 x123001 x5).f1.f1)) || ((!(((rd_T121 x122001 x5).f1.f2.f0) == ((rd_T121 x123001 x5).f1.f2.f0)) || (!(((rd_T121 x122001 x5).f1.f2.f1) == ((rd_T121 x123001 x5).f1.f2.f1)) || (!(((rd_T121 x122001 x5).f1.f2.f2) == ((rd_T121 x123001 x5).f1.f2.f2))))) || ((!(((rd_T121 x122001 x5).f1.f3.f0) == ((rd_T121 x123001 x5).f1.f3.f0)) || (!(((rd_T121 x122001 x5).f1.f3.f1) == ((rd_T121 x123001 x5).f1.f3.f1)) || (!(((rd_T121 x122001 x5).f1.f3.f2) == ((rd_T121 x123001 x5).f1.f3.f2))))))))) x122000 x122001 x122002 x123000 x123001 x123002) else (spec_SameState.j2 k x5 true x122000 x122001 x122002 x123000 x123001 x123002))) else (none)) else (none)) else (some true)
def spec_SameState.j2 : Nat → Int → Bool → List (S130) → List (S121) → List Int → List (S130) → List (S121) → List Int → Option (Bool)
  | 0, _, _, _, _, _, _, _, _ => none
  | k + 1, x5, x64, x122000, x122001, x122002, x123000, x123001, x123002 => if x64 = true then (some false) else (spec_SameState.l0 k (wrap64 (x5 + 1)) x122000 x122001 x122002 x123000 x123001 x123002)
end
def spec_SameState.f (k : Nat) (l0_0 : List (S130)) (l0_1 : List (S121)) (l0_2 : List Int) (l1_0 : List (S130)) (l1_1 : List (S121)) (l1_2 : List Int) : Option (Bool) := (spec_l03Same.f k l0_0 l1_0).bind fun t123 => (if t123 = true then (if (l0_1.length : Int) = (l1_1.length : Int) then ((spec_l00Same.f k l0_2 l1_2).bind fun t124 => (spec_SameState.j0 k (!t124) l0_0 l0_1 l0_2 l1_0 l1_1 l1_2)) else (spec_SameState.j0 k true l0_0 l0_1 l0_2 l1_0 l1_1 l1_2)) else (spec_SameState.j0 k true l0_0 l0_1 l0_2 l1_0 l1_1 l1_2))
theorem spec_SameState.mono_l : ∀ k, (∀ y0 y1 y2 y3 y4 y5 y6, LeO (spec_SameState.j0 k y0 y1 y2 y3 y4 y5 y6) (spec_SameState.j0 (k + 1) y0 y1 y2 y3 y4 y5 y6)) ∧ (∀ y0 y1 y2 y3 y4 y5 y6, LeO (spec_SameState.l0 k y0 y1 y2 y3 y4 y5 y6) (spec_SameState.l0 (k + 1) y0 y1 y2 y3 y4 y5 y6)) ∧ (∀ y0 y1 y2 y3 y4 y5 y6 y7, LeO (spec_SameState.j2 k y0 y1 y2 y3 y4 y5 y6 y7) (spec_SameState.j2 (k + 1) y0 y1 y2 y3 y4 y5 y6 y7))
  | 0 => ⟨fun _ _ _ _ _ _ _ r h => by simp [spec_SameState.j0] at h, fun _ _ _ _ _ _ _ r h => by simp [spec_SameState.l0] at h, fun _ _ _ _ _ _ _ _ r h => by simp [spec_SameState.j2] at h⟩
  | k + 1 => by
    obtain ⟨ih0, ih1, ih2⟩ := spec_SameState.mono_l k
    refine ⟨?_, ?_, ?_⟩
    · intro y0 y1 y2 y3 y4 y5 y6
      unfold spec_SameState.j0
      repeat' first
      | (with_reducible exact ih0 _ _ _ _ _ _ _)
      | (with_reducible exact ih1 _ _ _ _ _ _ _)
      | (with_reducible exact ih2 _ _ _ _ _ _ _ _)
      | (with_reducible exact spec_l00Same.mono _ _ _)
      | (with_reducible exact spec_l03Same.mono _ _ _)
      | (with_reducible exact LeO.refl _)
      | (with_reducible exact LeO.none _)
      | (with_reducible refine LeO.ite ?_ ?_)
      | (with_reducible refine LeO.bind ?_ (fun _ => ?_))
      | exact ih0 _ _ _ _ _ _ _
      | exact ih1 _ _ _ _ _ _ _
      | exact ih2 _ _ _ _ _ _ _ _
      | exact spec_l00Same.mono _ _ _
      | exact spec_l03Same.mono _ _ _
      | exact LeO.none _
      | refine LeO.ite ?_ ?_
      | refine LeO.bind ?_ (fun _ => ?_)
    · intro y0 y1 y2 y3 y4 y5 y6
      unfold spec_SameState.l0
      repeat' first
      | (with_reducible exact ih0 _ _ _ _ _ _ _)
      | (with_reducible exact ih1 _ _ _ _ _ _ _)
      | (with_reducible exact ih2 _ _ _ _ _ _ _ _)
      | (with_reducible exact spec_l00Same.mono _ _ _)
      | (with_reducible exact spec_l03Same.mono _ _ _)
      | (with_reducible exact LeO.refl _)
      | (with_reducible exact LeO.none _)
      | (with_reducible refine LeO.ite ?_ ?_)
      | (with_reducible refine LeO.bind ?_ (fun _ => ?_))
      | exact ih0 _ _ _ _ _ _ _
      | exact ih1 _ _ _ _ _ _ _
      | exact ih2 _ _ _ _ _ _ _ _
      | exact spec_l00Same.mono _ _ _
      | exact spec_l03Same.mono _ _ _
      | exact LeO.none _
      | refine LeO.ite ?_ ?_
      | refine LeO.bind ?_ (fun _ => ?_)
    · intro y0 y1 y2 y3 y4 y5 y6 y7
      unfold spec_SameState.j2
      repeat' first
      | (with_reducible exact ih0 _ _ _ _ _ _ _)
      | (with_reducible exact ih1 _ _ _ _ _ _ _)
      | (with_reducible exact ih2 _ _ _ _ _ _ _ _)
      | (with_reducible exact spec_l00Same.mono _ _ _)
      | (with_reducible exact spec_l03Same.mono _ _ _)
      | (with_reducible exact LeO.refl _)
      | (with_reducible exact LeO.none _)
      | (with_reducible refine LeO.ite ?_ ?_)
      | (with_reducible refine LeO.bind ?_ (fun _ => ?_))
      | exact ih0 _ _ _ _ _ _ _
      | exact ih1 _ _ _ _ _ _ _
      | exact ih2 _ _ _ _ _ _ _ _
      | exact spec_l00Same.mono _ _ _
      | exact spec_l03Same.mono _ _ _
      | exact LeO.none _
      | refine LeO.ite ?_ ?_
      | refine LeO.bind ?_ (fun _ => ?_)
theorem spec_SameState.mono : ∀ a0 a1 a2 a3 a4 a5 k, LeO (spec_SameState.f k a0 a1 a2 a3 a4 a5) (spec_SameState.f (k + 1) a0 a1 a2 a3 a4 a5) := by
  intro a0 a1 a2 a3 a4 a5 k
  obtain ⟨ih0, ih1, ih2⟩ := spec_SameState.mono_l k
  unfold spec_SameState.f
  repeat' first
      | (with_reducible exact ih0 _ _ _ _ _ _ _)
      | (with_reducible exact ih1 _ _ _ _ _ _ _)
      | (with_reducible exact ih2 _ _ _ _ _ _ _ _)
      | (with_reducible exact spec_l00Same.mono _ _ _)
      | (with_reducible exact spec_l03Same.mono _ _ _)
      | (with_reducible exact LeO.refl _)
      | (with_reducible exact LeO.none _)
      | (with_reducible refine LeO.ite ?_ ?_)
      | (with_reducible refine LeO.bind ?_ (fun _ => ?_))
      | exact ih0 _ _ _ _ _ _ _
      | exact ih1 _ _ _ _ _ _ _
      | exact ih2 _ _ _ _ _ _ _ _
      | exact spec_l00Same.mono _ _ _
      | exact spec_l03Same.mono _ _ _
      | exact LeO.none _
      | refine LeO.ite ?_ ?_
      | refine LeO.bind ?_ (fun _ => ?_)
set_option maxHeartbeats 8000000 in
set_option maxRecDepth 100000 in
theorem spec_SameState.calls (k : Nat) (A0_0 : Option Addr) (c0_0 : Nat) (l0_0 : List (S130)) (A0_1 : Option Addr) (c0_1 : Nat) (l0_1 : List (S121)) (A0_2 : Option Addr) (c0_2 : Nat) (l0_2 : List Int) (A1_0 : Option Addr) (c1_0 : Nat) (l1_0 : List (S130)) (A1_1 : Option Addr) (c1_1 : Nat) (l1_1 : List (S121)) (A1_2 : Option Addr) (c1_2 : Nat) (l1_2 : List Int) (r : Bool) (w : World) (hr0_0 : Kd.C k130 w A0_0 l0_0.length l0_0) (hc0_0 : l0_0.length ≤ c0_0) (hr0_1 : Kd.C k121 w A0_1 l0_1.length l0_1) (hc0_1 : l0_1.length ≤ c0_1) (hr0_2 : Kd.C (Kd.int .i64) w A0_2 l0_2.length l0_2) (hc0_2 : l0_2.length ≤ c0_2) (hr1_0 : Kd.C k130 w A1_0 l1_0.length l1_0) (hc1_0 : l1_0.length ≤ c1_0) (hr1_1 : Kd.C k121 w A1_1 l1_1.length l1_1) (hc1_1 : l1_1.length ≤ c1_1) (hr1_2 : Kd.C (Kd.int .i64) w A1_2 l1_2.length l1_2) (hc1_2 : l1_2.length ≤ c1_2) (h : spec_SameState.f k l0_0 l0_1 l0_2 l1_0 l1_1 l1_2 = some r) :
    Calls Try.prog 65 #[.agg #[.slice A0_0 l0_0.length c0_0, .slice A0_1 l0_1.length c0_1, .slice A0_2 l0_2.length c0_2], .agg #[.slice A1_0 l1_0.length c1_0, .slice A1_1 l1_1.length c1_1, .slice A1_2 l1_2.length c1_2]] w fun e w' => e = .returned (.bool r) ∧ Below w.heap.size w w' := by
  have hu65 := Try.underlying65
  have hu118 := Try.underlying118
  have HR0_0 := Aside0.mk hr0_0
  have HC0_0 := Aside0.mk hc0_0
  clear hr0_0 hc0_0
  have HR0_1 := Aside0.mk hr0_1
  have HC0_1 := Aside0.mk hc0_1
  clear hr0_1 hc0_1
  have HR0_2 := Aside0.mk hr0_2
  have HC0_2 := Aside0.mk hc0_2
  clear hr0_2 hc0_2
  have HR1_0 := Aside0.mk hr1_0
  have HC1_0 := Aside0.mk hc1_0
  clear hr1_0 hc1_0
  have HR1_1 := Aside0.mk hr1_1
  have HC1_1 := Aside0.mk hc1_1
  clear hr1_1 hc1_1
  have HR1_2 := Aside0.mk hr1_2
  have HC1_2 := Aside0.mk hc1_2
  clear hr1_2 hc1_2
  have HB := Aside0.mk (Below.refl w.heap.size w)
  have H : ((spec_l03Same.f k l0_0 l1_0).bind fun t123 => (if t123 = true then (if (l0_1.length : Int) = (l1_1.length : Int) then ((spec_l00Same.f k l0_2 l1_2).bind fun t124 => (spec_SameState.j0 k (!t124) l0_0 l0_1 l0_2 l1_0 l1_1 l1_2)) else (spec_SameState.j0 k true l0_0 l0_1 l0_2 l1_0 l1_1 l1_2)) else (spec_SameState.j0 k true l0_0 l0_1 l0_2 l1_0 l1_1 l1_2))) = some r := h
  clear h
  have HC3 := Aside0.mk H
  clear H
  go_enter Try.func65, Try.ntmps65
  go_upto_region 1 with (first | ((with_reducible refine gate_dst (N := 2) rfl ?_); (try (refine gate_guard (by rfl) ?_; dsimp only)); refine bx #[.slice A0_0 l0_0.length c0_0, .slice A0_1 l0_1.length c0_1, .slice A0_2 l0_2.length c0_2] 65 ?_; intro gb121 hg w4 hbox hb; have BK121 := Aside0.mk hbox; have GW121 := bg hg; have GE121 := bg hg; replace HB := bs hb; clear hb hbox hg) | ((with_reducible refine gate_dst (N := 3) rfl ?_); (try (refine gate_guard (by rfl) ?_; dsimp only)); refine bx #[.slice A1_0 l1_0.length c1_0, .slice A1_1 l1_1.length c1_1, .slice A1_2 l1_2.length c1_2] 65 ?_; intro gb122 hg w5 hbox hb; have BK122 := Aside0.mk hbox; have GW122 := bg hg; have GE122 := bg hg; have NB121_122 := bl BK121 hg; have NB122_121 := bv BK121 hg; replace BK121 := bb BK121 hb; replace HB := bs hb; clear hb hbox hg))
  repeat (go_quiet (first | ((with_reducible refine gate_dst (N := 2) rfl ?_); (try (refine gate_guard (by rfl) ?_; dsimp only)); refine bx #[.slice A0_0 l0_0.length c0_0, .slice A0_1 l0_1.length c0_1, .slice A0_2 l0_2.length c0_2] 65 ?_; intro gb121 hg w4 hbox hb; have BK121 := Aside0.mk hbox; have GW121 := bg hg; have GE121 := bg hg; replace HB := bs hb; clear hb hbox hg) | ((with_reducible refine gate_dst (N := 3) rfl ?_); (try (refine gate_guard (by rfl) ?_; dsimp only)); refine bx #[.slice A1_0 l1_0.length c1_0, .slice A1_1 l1_1.length c1_1, .slice A1_2 l1_2.length c1_2] 65 ?_; intro gb122 hg w5 hbox hb; have BK122 := Aside0.mk hbox; have GW122 := bg hg; have GE122 := bg hg; have NB121_122 := bl BK121 hg; have NB122_121 := bv BK121 hg; replace BK121 := bb BK121 hb; replace HB := bs hb; clear hb hbox hg)); go_upto_region 1 with (first | ((with_reducible refine gate_dst (N := 2) rfl ?_); (try (refine gate_guard (by rfl) ?_; dsimp only)); refine bx #[.slice A0_0 l0_0.length c0_0, .slice A0_1 l0_1.length c0_1, .slice A0_2 l0_2.length c0_2] 65 ?_; intro gb121 hg w4 hbox hb; have BK121 := Aside0.mk hbox; have GW121 := bg hg; have GE121 := bg hg; replace HB := bs hb; clear hb hbox hg) | ((with_reducible refine gate_dst (N := 3) rfl ?_); (try (refine gate_guard (by rfl) ?_; dsimp only)); refine bx #[.slice A1_0 l1_0.length c1_0, .slice A1_1 l1_1.length c1_1, .slice A1_2 l1_2.length c1_2] 65 ?_; intro gb122 hg w5 hbox hb; have BK122 := Aside0.mk hbox; have GW122 := bg hg; have GE122 := bg hg; have NB121_122 := bl BK121 hg; have NB122_121 := bv BK121 hg; replace BK121 := bb BK121 hb; replace HB := bs hb; clear hb hbox hg)))
  (try simp only [Act.put, List.setIfInBounds_toArray, List.set_cons_zero, List.set_cons_succ])
  go_cut [28] (fun v28 wc => ∃ (kq : Nat) (x28_2 : Bool), v28 = .bool x28_2 ∧ Aside0 (spec_SameState.j0 kq x28_2 l0_0 l0_1 l0_2 l1_0 l1_1 l1_2 = some r) ∧ Aside0 (kq ≤ k) ∧ Aside0 (wc.heap[gb121]? = some (.cells #[(.slice A0_0 l0_0.length c0_0), (.slice A0_1 l0_1.length c0_1), (.slice A0_2 l0_2.length c0_2)] 65 (0, 0))) ∧ Aside0 (wc.heap[gb122]? = some (.cells #[(.slice A1_0 l1_0.length c1_0), (.slice A1_1 l1_1.length c1_1), (.slice A1_2 l1_2.length c1_2)] 65 (0, 0))) ∧ Aside0 (Below w.heap.size w wc))
  case first =>
    have H := HC3.out
    clear HC3
    replace H := Option.bind_eq_some_iff.mp H
    obtain ⟨t123, A60, H⟩ := H
    replace H : (if t123 = true then (if (l0_1.length : Int) = (l1_1.length : Int) then ((spec_l00Same.f k l0_2 l1_2).bind fun t124 => (spec_SameState.j0 k (!t124) l0_0 l0_1 l0_2 l1_0 l1_1 l1_2)) else (spec_SameState.j0 k true l0_0 l0_1 l0_2 l1_0 l1_1 l1_2)) else (spec_SameState.j0 k true l0_0 l0_1 l0_2 l1_0 l1_1 l1_2)) = some r := H
    have A6 := Aside0.mk A60
    clear A60
    by_cases c7 : t123 = true
    · subst c7
      rw [if_pos rfl] at H
      by_cases c8 : (l0_1.length : Int) = (l1_1.length : Int)
      · rw [if_pos c8] at H
        have c8b0 : ((l0_1.length : Int) == (l1_1.length : Int)) = true := beq_iff_eq.mpr c8
        have c8b1 : ((l0_1.length : Int) != (l1_1.length : Int)) = false := bne_eq_false_iff_eq.mpr c8
        have c8b2 : (l0_1.length == l1_1.length) = true := by first | simpa using c8 | (simp at c8 ⊢; omega)
        clear c8
        (first | rw [c8b0] | (simp only [i64_w, i32_w]; rw [c8b0]) | skip)
        replace H := Option.bind_eq_some_iff.mp H
        obtain ⟨t124, A90, H⟩ := H
        replace H : (spec_SameState.j0 k (!t124) l0_0 l0_1 l0_2 l1_0 l1_1 l1_2) = some r := H
        have A9 := Aside0.mk A90
        clear A90
        have H' := Aside0.mk H
        clear H
        have hnb10 := NB121_122.out
        have hnc10 := NB122_121.out
        obtain ⟨z11_0, z11_1, z11_2, y11_0, y11_1, y11_2⟩ := bq3 BK121
        obtain ⟨z12_0, z12_1, z12_2, y12_0, y12_1, y12_2⟩ := bq3 BK122
        go_wp2_with (first | (go_at_call 132; (with_reducible refine (spec_l03Same.calls k _ _ l0_0 _ _ l1_0 true _ ?side1 ?side2 ?side3 ?side4 A6.out).mono ?_); (case side1 => exact sd HR0_0); (case side2 => exact HC0_0.out); (case side3 => exact sd HR1_0); (case side4 => exact HC1_0.out); rintro e w' ⟨rfl, ⟨nd, rfl⟩⟩; (try first | exact ⟨rfl, _, World.drewN_drewN _ _ _⟩ | exact ⟨rfl, _, Eq.trans (World.drewN_drewN _ _ _) (congrArg (World.drewN _) (Nat.add_assoc _ _ _))⟩)) | (go_at_call 133; (with_reducible refine (spec_l00Same.calls k _ _ l0_2 _ _ l1_2 t124 _ ?side1 ?side2 ?side3 ?side4 A9.out).mono ?_); (case side1 => repeat (first | exact (Kd.C_below HR0_2.out bw) | (with_reducible refine Kd.C_alloc ?_ _) | (with_reducible refine Kd.C_drewN ?_ _) | (with_reducible refine Kd.C_drew ?_))); (case side2 => exact HC0_2.out); (case side3 => repeat (first | exact (Kd.C_below HR1_2.out bw) | (with_reducible refine Kd.C_alloc ?_ _) | (with_reducible refine Kd.C_drewN ?_ _) | (with_reducible refine Kd.C_drew ?_))); (case side4 => exact HC1_2.out); rintro e w' ⟨rfl, ⟨nd, rfl⟩⟩; (try first | exact ⟨rfl, _, World.drewN_drewN _ _ _⟩ | exact ⟨rfl, _, Eq.trans (World.drewN_drewN _ _ _) (congrArg (World.drewN _) (Nat.add_assoc _ _ _))⟩)))
        repeat (go_quiet (first | (go_at_call 132; (with_reducible refine (spec_l03Same.calls k _ _ l0_0 _ _ l1_0 true _ ?side1 ?side2 ?side3 ?side4 A6.out).mono ?_); (case side1 => exact sd HR0_0); (case side2 => exact HC0_0.out); (case side3 => exact sd HR1_0); (case side4 => exact HC1_0.out); rintro e w' ⟨rfl, ⟨nd, rfl⟩⟩; (try first | exact ⟨rfl, _, World.drewN_drewN _ _ _⟩ | exact ⟨rfl, _, Eq.trans (World.drewN_drewN _ _ _) (congrArg (World.drewN _) (Nat.add_assoc _ _ _))⟩)) | (go_at_call 133; (with_reducible refine (spec_l00Same.calls k _ _ l0_2 _ _ l1_2 t124 _ ?side1 ?side2 ?side3 ?side4 A9.out).mono ?_); (case side1 => repeat (first | exact (Kd.C_below HR0_2.out bw) | (with_reducible refine Kd.C_alloc ?_ _) | (with_reducible refine Kd.C_drewN ?_ _) | (with_reducible refine Kd.C_drew ?_))); (case side2 => exact HC0_2.out); (case side3 => repeat (first | exact (Kd.C_below HR1_2.out bw) | (with_reducible refine Kd.C_alloc ?_ _) | (with_reducible refine Kd.C_drewN ?_ _) | (with_reducible refine Kd.C_drew ?_))); (case side4 => exact HC1_2.out); rintro e w' ⟨rfl, ⟨nd, rfl⟩⟩; (try first | exact ⟨rfl, _, World.drewN_drewN _ _ _⟩ | exact ⟨rfl, _, Eq.trans (World.drewN_drewN _ _ _) (congrArg (World.drewN _) (Nat.add_assoc _ _ _))⟩))); try go_wp2_with (first | (go_at_call 132; (with_reducible refine (spec_l03Same.calls k _ _ l0_0 _ _ l1_0 true _ ?side1 ?side2 ?side3 ?side4 A6.out).mono ?_); (case side1 => exact sd HR0_0); (case side2 => exact HC0_0.out); (case side3 => exact sd HR1_0); (case side4 => exact HC1_0.out); rintro e w' ⟨rfl, ⟨nd, rfl⟩⟩; (try first | exact ⟨rfl, _, World.drewN_drewN _ _ _⟩ | exact ⟨rfl, _, Eq.trans (World.drewN_drewN _ _ _) (congrArg (World.drewN _) (Nat.add_assoc _ _ _))⟩)) | (go_at_call 133; (with_reducible refine (spec_l00Same.calls k _ _ l0_2 _ _ l1_2 t124 _ ?side1 ?side2 ?side3 ?side4 A9.out).mono ?_); (case side1 => repeat (first | exact (Kd.C_below HR0_2.out bw) | (with_reducible refine Kd.C_alloc ?_ _) | (with_reducible refine Kd.C_drewN ?_ _) | (with_reducible refine Kd.C_drew ?_))); (case side2 => exact HC0_2.out); (case side3 => repeat (first | exact (Kd.C_below HR1_2.out bw) | (with_reducible refine Kd.C_alloc ?_ _) | (with_reducible refine Kd.C_drewN ?_ _) | (with_reducible refine Kd.C_drew ?_))); (case side4 => exact HC1_2.out); rintro e w' ⟨rfl, ⟨nd, rfl⟩⟩; (try first | exact ⟨rfl, _, World.drewN_drewN _ _ _⟩ | exact ⟨rfl, _, Eq.trans (World.drewN_drewN _ _ _) (congrArg (World.drewN _) (Nat.add_assoc _ _ _))⟩))))
        go_meet
        case rel => exact ⟨_, (!t124), (by first | rfl | (simp; done) | (simp [*]; done)), H', ⟨by first | omega | exact Nat.le_refl _⟩, ⟨by refine bk (h := ?_); exact BK121.out⟩, ⟨by refine bk (h := ?_); exact BK122.out⟩, ⟨bw⟩⟩
      · rw [if_neg c8] at H
        have c8b0 : ((l0_1.length : Int) == (l1_1.length : Int)) = false := beq_eq_false_iff_ne.mpr c8
        have c8b1 : ((l0_1.length : Int) != (l1_1.length : Int)) = true := bne_iff_ne.mpr c8
        have c8b2 : (l0_1.length == l1_1.length) = false := by first | simpa using c8 | (simp at c8 ⊢; omega)
        (first | rw [c8b0] | (simp only [i64_w, i32_w]; rw [c8b0]) | skip)
        have H' := Aside0.mk H
        clear H
        have hnb13 := NB121_122.out
        have hnc13 := NB122_121.out
        obtain ⟨z14_0, z14_1, z14_2, y14_0, y14_1, y14_2⟩ := bq3 BK121
        obtain ⟨z15_0, z15_1, z15_2, y15_0, y15_1, y15_2⟩ := bq3 BK122
        go_wp2_with (first | (go_at_call 132; (with_reducible refine (spec_l03Same.calls k _ _ l0_0 _ _ l1_0 true _ ?side1 ?side2 ?side3 ?side4 A6.out).mono ?_); (case side1 => exact sd HR0_0); (case side2 => exact HC0_0.out); (case side3 => exact sd HR1_0); (case side4 => exact HC1_0.out); rintro e w' ⟨rfl, ⟨nd, rfl⟩⟩; (try first | exact ⟨rfl, _, World.drewN_drewN _ _ _⟩ | exact ⟨rfl, _, Eq.trans (World.drewN_drewN _ _ _) (congrArg (World.drewN _) (Nat.add_assoc _ _ _))⟩)))
        repeat (go_quiet (first | (go_at_call 132; (with_reducible refine (spec_l03Same.calls k _ _ l0_0 _ _ l1_0 true _ ?side1 ?side2 ?side3 ?side4 A6.out).mono ?_); (case side1 => exact sd HR0_0); (case side2 => exact HC0_0.out); (case side3 => exact sd HR1_0); (case side4 => exact HC1_0.out); rintro e w' ⟨rfl, ⟨nd, rfl⟩⟩; (try first | exact ⟨rfl, _, World.drewN_drewN _ _ _⟩ | exact ⟨rfl, _, Eq.trans (World.drewN_drewN _ _ _) (congrArg (World.drewN _) (Nat.add_assoc _ _ _))⟩))); try go_wp2_with (first | (go_at_call 132; (with_reducible refine (spec_l03Same.calls k _ _ l0_0 _ _ l1_0 true _ ?side1 ?side2 ?side3 ?side4 A6.out).mono ?_); (case side1 => exact sd HR0_0); (case side2 => exact HC0_0.out); (case side3 => exact sd HR1_0); (case side4 => exact HC1_0.out); rintro e w' ⟨rfl, ⟨nd, rfl⟩⟩; (try first | exact ⟨rfl, _, World.drewN_drewN _ _ _⟩ | exact ⟨rfl, _, Eq.trans (World.drewN_drewN _ _ _) (congrArg (World.drewN _) (Nat.add_assoc _ _ _))⟩))))
        go_meet
        case rel => exact ⟨_, (true), (by first | rfl | (simp; done) | (simp [*]; done)), H', ⟨by first | omega | exact Nat.le_refl _⟩, ⟨by refine bk (h := ?_); exact BK121.out⟩, ⟨by refine bk (h := ?_); exact BK122.out⟩, ⟨bw⟩⟩
    · replace c7 := Bool.eq_false_iff.mpr c7
      subst c7
      rw [if_neg nf] at H
      have H' := Aside0.mk H
      clear H
      have hnb16 := NB121_122.out
      have hnc16 := NB122_121.out
      obtain ⟨z17_0, z17_1, z17_2, y17_0, y17_1, y17_2⟩ := bq3 BK121
      obtain ⟨z18_0, z18_1, z18_2, y18_0, y18_1, y18_2⟩ := bq3 BK122
      go_wp2_with (first | (go_at_call 132; (with_reducible refine (spec_l03Same.calls k _ _ l0_0 _ _ l1_0 false _ ?side1 ?side2 ?side3 ?side4 A6.out).mono ?_); (case side1 => exact sd HR0_0); (case side2 => exact HC0_0.out); (case side3 => exact sd HR1_0); (case side4 => exact HC1_0.out); rintro e w' ⟨rfl, ⟨nd, rfl⟩⟩; (try first | exact ⟨rfl, _, World.drewN_drewN _ _ _⟩ | exact ⟨rfl, _, Eq.trans (World.drewN_drewN _ _ _) (congrArg (World.drewN _) (Nat.add_assoc _ _ _))⟩)))
      repeat (go_quiet (first | (go_at_call 132; (with_reducible refine (spec_l03Same.calls k _ _ l0_0 _ _ l1_0 false _ ?side1 ?side2 ?side3 ?side4 A6.out).mono ?_); (case side1 => exact sd HR0_0); (case side2 => exact HC0_0.out); (case side3 => exact sd HR1_0); (case side4 => exact HC1_0.out); rintro e w' ⟨rfl, ⟨nd, rfl⟩⟩; (try first | exact ⟨rfl, _, World.drewN_drewN _ _ _⟩ | exact ⟨rfl, _, Eq.trans (World.drewN_drewN _ _ _) (congrArg (World.drewN _) (Nat.add_assoc _ _ _))⟩))); try go_wp2_with (first | (go_at_call 132; (with_reducible refine (spec_l03Same.calls k _ _ l0_0 _ _ l1_0 false _ ?side1 ?side2 ?side3 ?side4 A6.out).mono ?_); (case side1 => exact sd HR0_0); (case side2 => exact HC0_0.out); (case side3 => exact sd HR1_0); (case side4 => exact HC1_0.out); rintro e w' ⟨rfl, ⟨nd, rfl⟩⟩; (try first | exact ⟨rfl, _, World.drewN_drewN _ _ _⟩ | exact ⟨rfl, _, Eq.trans (World.drewN_drewN _ _ _) (congrArg (World.drewN _) (Nat.add_assoc _ _ _))⟩))))
      go_meet
      case rel => exact ⟨_, (true), (by first | rfl | (simp; done) | (simp [*]; done)), H', ⟨by first | omega | exact Nat.le_refl _⟩, ⟨by refine bk (h := ?_); exact BK121.out⟩, ⟨by refine bk (h := ?_); exact BK122.out⟩, ⟨bw⟩⟩
  case rest =>
    clear HC3
    try clear c1
    try clear p2
    try clear c6
    try clear c7
    try clear c8
    try clear c8b0
    try clear c8b1
    try clear c8b2
    try clear c10
    try clear c13
    try clear c16
    try clear z11_0 z11_1 z11_2 y11_0 y11_1 y11_2
    try clear z12_0 z12_1 z12_2 y12_0 y12_1 y12_2
    try clear z14_0 z14_1 z14_2 y14_0 y14_1 y14_2
    try clear z15_0 z15_1 z15_2 y15_0 y15_1 y15_2
    try clear z17_0 z17_1 z17_2 y17_0 y17_1 y17_2
    try clear z18_0 z18_1 z18_2 y18_0 y18_1 y18_2
    obtain ⟨kq, x28_2, rfl, HA, HJ2, BK121, BK122, HB⟩ := hcut
    cases kq with
    | zero => exact absurd HA.out (by simp [spec_SameState.j0])
    | succ kj2 =>
      have H := HA.out
      clear HA
      simp only [spec_SameState.j0] at H
      by_cases c19 : x28_2 = true
      · subst c19
        rw [if_pos rfl] at H
        obtain rfl := Option.some.inj H
        go_wp2
        repeat (go_quiet (fail); try go_wp2)
        go_ret
        exact ⟨er, bw⟩
      · replace c19 := Bool.eq_false_iff.mpr c19
        subst c19
        rw [if_neg nf] at H
        have H' := Aside0.mk H
        clear H
        go_wp2
        repeat (go_quiet (fail); try go_wp2)
        go_loopg [5] kj2 (fun kq v5 w' => ∃ (x5_2 : Int), v5 = .int .i64 x5_2 ∧ Aside0 (spec_SameState.l0 kq x5_2 l0_0 l0_1 l0_2 l1_0 l1_1 l1_2 = some r) ∧ Aside0 (kq ≤ kj2) ∧ Aside0 (w'.heap[gb121]? = some (.cells #[(.slice A0_0 l0_0.length c0_0), (.slice A0_1 l0_1.length c0_1), (.slice A0_2 l0_2.length c0_2)] 65 (0, 0))) ∧ Aside0 (w'.heap[gb122]? = some (.cells #[(.slice A1_0 l1_0.length c1_0), (.slice A1_1 l1_1.length c1_1), (.slice A1_2 l1_2.length c1_2)] 65 (0, 0))) ∧ Aside0 (Below w.heap.size w w'))
        case atStart => exact ⟨(0), (by first | rfl | (simp; done) | (simp [*]; done)), H', ⟨Nat.le_refl _⟩, ⟨by refine bk (h := ?_); exact BK121.out⟩, ⟨by refine bk (h := ?_); exact BK122.out⟩, ⟨bw⟩⟩
        case round =>
          clear H'
          try clear c1
          try clear p2
          try clear c6
          try clear c7
          try clear c8
          try clear c8b0
          try clear c8b1
          try clear c8b2
          try clear c10
          try clear c13
          try clear c16
          try clear c19
          try clear z11_0 z11_1 z11_2 y11_0 y11_1 y11_2
          try clear z12_0 z12_1 z12_2 y12_0 y12_1 y12_2
          try clear z14_0 z14_1 z14_2 y14_0 y14_1 y14_2
          try clear z15_0 z15_1 z15_2 y15_0 y15_1 y15_2
          try clear z17_0 z17_1 z17_2 y17_0 y17_1 y17_2
          try clear z18_0 z18_1 z18_2 y18_0 y18_1 y18_2
          try clear p2
          obtain ⟨x5_2, rfl, HA, HK2, BK121, BK122, HB⟩ := hrel
          cases gk with
          | zero => exact absurd HA.out (by simp [spec_SameState.l0])
          | succ k2 =>
            have H := HA.out
            clear HA
            simp only [spec_SameState.l0] at H
            by_cases c20 : x5_2 < (l0_1.length : Int)
            · rw [if_pos c20] at H
              have c20b0 : decide (x5_2 < (l0_1.length : Int)) = true := decide_eq_true c20
              clear c20
              have HC21 := Aside0.mk H
              clear H
              have hnb22 := NB121_122.out
              have hnc22 := NB122_121.out
              obtain ⟨z23_0, z23_1, z23_2, y23_0, y23_1, y23_2⟩ := bq3 BK121
              go_upto_region 6 with (fail)
              repeat (go_quiet (fail); go_upto_region 6 with (fail))
              go_cut [64] (fun v64 wc => ∃ (kq : Nat) (x64_20 : Bool), v64 = .bool x64_20 ∧ Aside0 (spec_SameState.j2 kq x5_2 x64_20 l0_0 l0_1 l0_2 l1_0 l1_1 l1_2 = some r) ∧ Aside0 (kq ≤ k2) ∧ Aside0 (wc.heap[gb121]? = some (.cells #[(.slice A0_0 l0_0.length c0_0), (.slice A0_1 l0_1.length c0_1), (.slice A0_2 l0_2.length c0_2)] 65 (0, 0))) ∧ Aside0 (wc.heap[gb122]? = some (.cells #[(.slice A1_0 l1_0.length c1_0), (.slice A1_1 l1_1.length c1_1), (.slice A1_2 l1_2.length c1_2)] 65 (0, 0))) ∧ Aside0 (Below w.heap.size w wc))
              case first =>
                have H := HC21.out
                clear HC21
                by_cases c24 : 0 ≤ x5_2
                · rw [if_pos c24] at H
                  have c24b0 : decide (0 ≤ x5_2) = true := decide_eq_true c24
                  clear c24
                  (first | rw [c24b0] | (simp only [i64_w, i32_w]; rw [c24b0]) | skip)
                  by_cases c25 : x5_2 < (l1_1.length : Int)
                  · rw [if_pos c25] at H
                    have c25b0 : decide (x5_2 < (l1_1.length : Int)) = true := decide_eq_true c25
                    clear c25
                    replace H := Option.bind_eq_some_iff.mp H
                    obtain ⟨t127, A260, H⟩ := H
                    replace H : (if t127 = true then (spec_SameState.j2 k2 x5_2 (!(((rd_T121 l0_1 x5_2).f1.f0) == ((rd_T121 l1_1 x5_2).f1.f0)) || (!(((rd_T121 l0_1 x5_2).f1.f1) == ((rd_T121 l1_1 x5_2).f1.f1)) || ((!(((rd_T121 l0_1 x5_2).f1.f2.f0) == ((rd_T121 l1_1 x5_2).f1.f2.f0)) || (!(((rd_T121 l0_1 x5_2).f1.f2.f1) == ((rd_T121 l1_1 x5_2).f1.f2.f1)) || (!(((rd_T121 l0_1 x5_2).f1.f2.f2) == ((rd_T121 l1_1 x5_2).f1.f2.f2))))) || ((!(((rd_T121 l0_1 x5_2).f1.f3.f0) == ((rd_T121 l1_1 x5_2).f1.f3.f0)) || (!(((rd_T121 l0_1 x5_2).f1.f3.f1) == ((rd_T121 l1_1 x5_2).f1.f3.f1)) || (!(((rd_T121 l0_1 x5_2).f1.f3.f2) == ((rd_T121 l1_1 x5_2).f1.f3.f2))))))))) l0_0 l0_1 l0_2 l1_0 l1_1 l1_2) else (spec_SameState.j2 k2 x5_2 true l0_0 l0_1 l0_2 l1_0 l1_1 l1_2)) = some r := H
                    have A26 := Aside0.mk A260
                    clear A260
                    by_cases c27 : t127 = true
                    · subst c27
                      rw [if_pos rfl] at H
                      have H' := Aside0.mk H
                      clear H
                      have hnb28 := NB121_122.out
                      have hnc28 := NB122_121.out
                      obtain ⟨z29_0, z29_1, z29_2, y29_0, y29_1, y29_2⟩ := bq3 BK121
                      have p125 : 0 ≤ (x5_2 : Int) := od
                      have q125 : x5_2 < (l0_1.length : Int) := od
                      obtain ⟨ad125, A125_0, c125_0, e125, hx125_0, hx125_1, hx125_2, hx125_3, hx125_4, hx125_5, hx125_6, hx125_7, hx125_8, hl125_0, hi125_0⟩ := at_T121 HR0_1.out x5_2 p125 q125
                      cases e125
                      replace hx125_0 := bc hx125_0
                      replace hx125_1 := bc hx125_1
                      replace hx125_2 := bc hx125_2
                      replace hx125_3 := bc hx125_3
                      replace hx125_4 := bc hx125_4
                      replace hx125_5 := bc hx125_5
                      replace hx125_6 := bc hx125_6
                      replace hx125_7 := bc hx125_7
                      replace hx125_8 := bc hx125_8
                      have HR125_0 := Aside0.mk hi125_0
                      have HC125_0 := Aside0.mk hl125_0
                      clear hi125_0 hl125_0
                      replace p125 := eq_true p125
                      replace q125 := eq_true q125
                      obtain ⟨z30_0, z30_1, z30_2, y30_0, y30_1, y30_2⟩ := bq3 BK122
                      have p126 : 0 ≤ (x5_2 : Int) := od
                      have q126 : x5_2 < (l1_1.length : Int) := od
                      obtain ⟨ad126, A126_0, c126_0, e126, hx126_0, hx126_1, hx126_2, hx126_3, hx126_4, hx126_5, hx126_6, hx126_7, hx126_8, hl126_0, hi126_0⟩ := at_T121 HR1_1.out x5_2 p126 q126
                      cases e126
                      replace hx126_0 := bc hx126_0
                      replace hx126_1 := bc hx126_1
                      replace hx126_2 := bc hx126_2
                      replace hx126_3 := bc hx126_3
                      replace hx126_4 := bc hx126_4
                      replace hx126_5 := bc hx126_5
                      replace hx126_6 := bc hx126_6
                      replace hx126_7 := bc hx126_7
                      replace hx126_8 := bc hx126_8
                      have HR126_0 := Aside0.mk hi126_0
                      have HC126_0 := Aside0.mk hl126_0
                      clear hi126_0 hl126_0
                      replace p126 := eq_true p126
                      replace q126 := eq_true q126
                      go_wp2_with (first | (go_at_call 132; (with_reducible refine (spec_l03Same.calls k2 _ _ ((rd_T121 l0_1 x5_2).f0) _ _ ((rd_T121 l1_1 x5_2).f0) true _ ?side1 ?side2 ?side3 ?side4 A26.out).mono ?_); (case side1 => exact sd HR125_0); (case side2 => exact HC125_0.out); (case side3 => exact sd HR126_0); (case side4 => exact HC126_0.out); rintro e w' ⟨rfl, ⟨nd, rfl⟩⟩; (try first | exact ⟨rfl, _, World.drewN_drewN _ _ _⟩ | exact ⟨rfl, _, Eq.trans (World.drewN_drewN _ _ _) (congrArg (World.drewN _) (Nat.add_assoc _ _ _))⟩); have p128 : 0 ≤ (x5_2 : Int) := od; have q128 : x5_2 < (l0_1.length : Int) := od; obtain ⟨ad128, A128_0, c128_0, e128, hx128_0, hx128_1, hx128_2, hx128_3, hx128_4, hx128_5, hx128_6, hx128_7, hx128_8, hl128_0, hi128_0⟩ := at_T121 HR0_1.out x5_2 p128 q128; obtain rfl : ad125 = ad128 := (by injection e128); replace hx128_0 := bc hx128_0; replace hx128_1 := bc hx128_1; replace hx128_2 := bc hx128_2; replace hx128_3 := bc hx128_3; replace hx128_4 := bc hx128_4; replace hx128_5 := bc hx128_5; replace hx128_6 := bc hx128_6; replace hx128_7 := bc hx128_7; replace hx128_8 := bc hx128_8; have HR128_0 := Aside0.mk hi128_0; have HC128_0 := Aside0.mk hl128_0; clear hi128_0 hl128_0; replace p128 := eq_true p128; replace q128 := eq_true q128; have ea_ := Option.some.inj (hx125_0.symm.trans hx128_0); injection ea_ with ea_ en_ ec_; subst ea_; subst ec_; clear en_; have p129 : 0 ≤ (x5_2 : Int) := od; have q129 : x5_2 < (l1_1.length : Int) := od; obtain ⟨ad129, A129_0, c129_0, e129, hx129_0, hx129_1, hx129_2, hx129_3, hx129_4, hx129_5, hx129_6, hx129_7, hx129_8, hl129_0, hi129_0⟩ := at_T121 HR1_1.out x5_2 p129 q129; obtain rfl : ad126 = ad129 := (by injection e129); replace hx129_0 := bc hx129_0; replace hx129_1 := bc hx129_1; replace hx129_2 := bc hx129_2; replace hx129_3 := bc hx129_3; replace hx129_4 := bc hx129_4; replace hx129_5 := bc hx129_5; replace hx129_6 := bc hx129_6; replace hx129_7 := bc hx129_7; replace hx129_8 := bc hx129_8; have HR129_0 := Aside0.mk hi129_0; have HC129_0 := Aside0.mk hl129_0; clear hi129_0 hl129_0; replace p129 := eq_true p129; replace q129 := eq_true q129; have ea_ := Option.some.inj (hx126_0.symm.trans hx129_0); injection ea_ with ea_ en_ ec_; subst ea_; subst ec_; clear en_))
                      repeat (go_quiet (first | (go_at_call 132; (with_reducible refine (spec_l03Same.calls k2 _ _ ((rd_T121 l0_1 x5_2).f0) _ _ ((rd_T121 l1_1 x5_2).f0) true _ ?side1 ?side2 ?side3 ?side4 A26.out).mono ?_); (case side1 => exact sd HR125_0); (case side2 => exact HC125_0.out); (case side3 => exact sd HR126_0); (case side4 => exact HC126_0.out); rintro e w' ⟨rfl, ⟨nd, rfl⟩⟩; (try first | exact ⟨rfl, _, World.drewN_drewN _ _ _⟩ | exact ⟨rfl, _, Eq.trans (World.drewN_drewN _ _ _) (congrArg (World.drewN _) (Nat.add_assoc _ _ _))⟩); have p128 : 0 ≤ (x5_2 : Int) := od; have q128 : x5_2 < (l0_1.length : Int) := od; obtain ⟨ad128, A128_0, c128_0, e128, hx128_0, hx128_1, hx128_2, hx128_3, hx128_4, hx128_5, hx128_6, hx128_7, hx128_8, hl128_0, hi128_0⟩ := at_T121 HR0_1.out x5_2 p128 q128; obtain rfl : ad125 = ad128 := (by injection e128); replace hx128_0 := bc hx128_0; replace hx128_1 := bc hx128_1; replace hx128_2 := bc hx128_2; replace hx128_3 := bc hx128_3; replace hx128_4 := bc hx128_4; replace hx128_5 := bc hx128_5; replace hx128_6 := bc hx128_6; replace hx128_7 := bc hx128_7; replace hx128_8 := bc hx128_8; have HR128_0 := Aside0.mk hi128_0; have HC128_0 := Aside0.mk hl128_0; clear hi128_0 hl128_0; replace p128 := eq_true p128; replace q128 := eq_true q128; have ea_ := Option.some.inj (hx125_0.symm.trans hx128_0); injection ea_ with ea_ en_ ec_; subst ea_; subst ec_; clear en_; have p129 : 0 ≤ (x5_2 : Int) := od; have q129 : x5_2 < (l1_1.length : Int) := od; obtain ⟨ad129, A129_0, c129_0, e129, hx129_0, hx129_1, hx129_2, hx129_3, hx129_4, hx129_5, hx129_6, hx129_7, hx129_8, hl129_0, hi129_0⟩ := at_T121 HR1_1.out x5_2 p129 q129; obtain rfl : ad126 = ad129 := (by injection e129); replace hx129_0 := bc hx129_0; replace hx129_1 := bc hx129_1; replace hx129_2 := bc hx129_2; replace hx129_3 := bc hx129_3; replace hx129_4 := bc hx129_4; replace hx129_5 := bc hx129_5; replace hx129_6 := bc hx129_6; replace hx129_7 := bc hx129_7; replace hx129_8 := bc hx129_8; have HR129_0 := Aside0.mk hi129_0; have HC129_0 := Aside0.mk hl129_0; clear hi129_0 hl129_0; replace p129 := eq_true p129; replace q129 := eq_true q129; have ea_ := Option.some.inj (hx126_0.symm.trans hx129_0); injection ea_ with ea_ en_ ec_; subst ea_; subst ec_; clear en_)); try go_wp2_with (first | (go_at_call 132; (with_reducible refine (spec_l03Same.calls k2 _ _ ((rd_T121 l0_1 x5_2).f0) _ _ ((rd_T121 l1_1 x5_2).f0) true _ ?side1 ?side2 ?side3 ?side4 A26.out).mono ?_); (case side1 => exact sd HR125_0); (case side2 => exact HC125_0.out); (case side3 => exact sd HR126_0); (case side4 => exact HC126_0.out); rintro e w' ⟨rfl, ⟨nd, rfl⟩⟩; (try first | exact ⟨rfl, _, World.drewN_drewN _ _ _⟩ | exact ⟨rfl, _, Eq.trans (World.drewN_drewN _ _ _) (congrArg (World.drewN _) (Nat.add_assoc _ _ _))⟩); have p128 : 0 ≤ (x5_2 : Int) := od; have q128 : x5_2 < (l0_1.length : Int) := od; obtain ⟨ad128, A128_0, c128_0, e128, hx128_0, hx128_1, hx128_2, hx128_3, hx128_4, hx128_5, hx128_6, hx128_7, hx128_8, hl128_0, hi128_0⟩ := at_T121 HR0_1.out x5_2 p128 q128; obtain rfl : ad125 = ad128 := (by injection e128); replace hx128_0 := bc hx128_0; replace hx128_1 := bc hx128_1; replace hx128_2 := bc hx128_2; replace hx128_3 := bc hx128_3; replace hx128_4 := bc hx128_4; replace hx128_5 := bc hx128_5; replace hx128_6 := bc hx128_6; replace hx128_7 := bc hx128_7; replace hx128_8 := bc hx128_8; have HR128_0 := Aside0.mk hi128_0; have HC128_0 := Aside0.mk hl128_0; clear hi128_0 hl128_0; replace p128 := eq_true p128; replace q128 := eq_true q128; have ea_ := Option.some.inj (hx125_0.symm.trans hx128_0); injection ea_ with ea_ en_ ec_; subst ea_; subst ec_; clear en_; have p129 : 0 ≤ (x5_2 : Int) := od; have q129 : x5_2 < (l1_1.length : Int) := od; obtain ⟨ad129, A129_0, c129_0, e129, hx129_0, hx129_1, hx129_2, hx129_3, hx129_4, hx129_5, hx129_6, hx129_7, hx129_8, hl129_0, hi129_0⟩ := at_T121 HR1_1.out x5_2 p129 q129; obtain rfl : ad126 = ad129 := (by injection e129); replace hx129_0 := bc hx129_0; replace hx129_1 := bc hx129_1; replace hx129_2 := bc hx129_2; replace hx129_3 := bc hx129_3; replace hx129_4 := bc hx129_4; replace hx129_5 := bc hx129_5; replace hx129_6 := bc hx129_6; replace hx129_7 := bc hx129_7; replace hx129_8 := bc hx129_8; have HR129_0 := Aside0.mk hi129_0; have HC129_0 := Aside0.mk hl129_0; clear hi129_0 hl129_0; replace p129 := eq_true p129; replace q129 := eq_true q129; have ea_ := Option.some.inj (hx126_0.symm.trans hx129_0); injection ea_ with ea_ en_ ec_; subst ea_; subst ec_; clear en_)))
                      go_meet
                      case rel => exact ⟨_, ((!(((rd_T121 l0_1 x5_2).f1.f0) == ((rd_T121 l1_1 x5_2).f1.f0)) || (!(((rd_T121 l0_1 x5_2).f1.f1) == ((rd_T121 l1_1 x5_2).f1.f1)) || ((!(((rd_T121 l0_1 x5_2).f1.f2.f0) == ((rd_T121 l1_1 x5_2).f1.f2.f0)) || (!(((rd_T121 l0_1 x5_2).f1.f2.f1) == ((rd_T121 l1_1 x5_2).f1.f2.f1)) || (!(((rd_T121 l0_1 x5_2).f1.f2.f2) == ((rd_T121 l1_1 x5_2).f1.f2.f2))))) || ((!(((rd_T121 l0_1 x5_2).f1.f3.f0) == ((rd_T121 l1_1 x5_2).f1.f3.f0)) || (!(((rd_T121 l0_1 x5_2).f1.f3.f1) == ((rd_T121 l1_1 x5_2).f1.f3.f1)) || (!(((rd_T121 l0_1 x5_2).f1.f3.f2) == ((rd_T121 l1_1 x5_2).f1.f3.f2)))))))))), (by first | rfl | (simp; done) | (simp [*]; done)), H', ⟨by have := HJ2.out; have := HK2.out; first | omega | exact Nat.le_refl _⟩, ⟨by refine bk (h := ?_); exact BK121.out⟩, ⟨by refine bk (h := ?_); exact BK122.out⟩, ⟨bw⟩⟩
                    · replace c27 := Bool.eq_false_iff.mpr c27
                      subst c27
                      rw [if_neg nf] at H
                      have H' := Aside0.mk H
                      clear H
                      have hnb31 := NB121_122.out
                      have hnc31 := NB122_121.out
                      obtain ⟨z32_0, z32_1, z32_2, y32_0, y32_1, y32_2⟩ := bq3 BK121
                      have p125 : 0 ≤ (x5_2 : Int) := od
                      have q125 : x5_2 < (l0_1.length : Int) := od
                      obtain ⟨ad125, A125_0, c125_0, e125, hx125_0, hx125_1, hx125_2, hx125_3, hx125_4, hx125_5, hx125_6, hx125_7, hx125_8, hl125_0, hi125_0⟩ := at_T121 HR0_1.out x5_2 p125 q125
                      cases e125
                      replace hx125_0 := bc hx125_0
                      replace hx125_1 := bc hx125_1
                      replace hx125_2 := bc hx125_2
                      replace hx125_3 := bc hx125_3
                      replace hx125_4 := bc hx125_4
                      replace hx125_5 := bc hx125_5
                      replace hx125_6 := bc hx125_6
                      replace hx125_7 := bc hx125_7
                      replace hx125_8 := bc hx125_8
                      have HR125_0 := Aside0.mk hi125_0
                      have HC125_0 := Aside0.mk hl125_0
                      clear hi125_0 hl125_0
                      replace p125 := eq_true p125
                      replace q125 := eq_true q125
                      obtain ⟨z33_0, z33_1, z33_2, y33_0, y33_1, y33_2⟩ := bq3 BK122
                      have p126 : 0 ≤ (x5_2 : Int) := od
                      have q126 : x5_2 < (l1_1.length : Int) := od
                      obtain ⟨ad126, A126_0, c126_0, e126, hx126_0, hx126_1, hx126_2, hx126_3, hx126_4, hx126_5, hx126_6, hx126_7, hx126_8, hl126_0, hi126_0⟩ := at_T121 HR1_1.out x5_2 p126 q126
                      cases e126
                      replace hx126_0 := bc hx126_0
                      replace hx126_1 := bc hx126_1
                      replace hx126_2 := bc hx126_2
                      replace hx126_3 := bc hx126_3
                      replace hx126_4 := bc hx126_4
                      replace hx126_5 := bc hx126_5
                      replace hx126_6 := bc hx126_6
                      replace hx126_7 := bc hx126_7
                      replace hx126_8 := bc hx126_8
                      have HR126_0 := Aside0.mk hi126_0
                      have HC126_0 := Aside0.mk hl126_0
                      clear hi126_0 hl126_0
                      replace p126 := eq_true p126
                      replace q126 := eq_true q126
                      go_wp2_with (first | (go_at_call 132; (with_reducible refine (spec_l03Same.calls k2 _ _ ((rd_T121 l0_1 x5_2).f0) _ _ ((rd_T121 l1_1 x5_2).f0) false _ ?side1 ?side2 ?side3 ?side4 A26.out).mono ?_); (case side1 => exact sd HR125_0); (case side2 => exact HC125_0.out); (case side3 => exact sd HR126_0); (case side4 => exact HC126_0.out); rintro e w' ⟨rfl, ⟨nd, rfl⟩⟩; (try first | exact ⟨rfl, _, World.drewN_drewN _ _ _⟩ | exact ⟨rfl, _, Eq.trans (World.drewN_drewN _ _ _) (congrArg (World.drewN _) (Nat.add_assoc _ _ _))⟩)))
                      repeat (go_quiet (first | (go_at_call 132; (with_reducible refine (spec_l03Same.calls k2 _ _ ((rd_T121 l0_1 x5_2).f0) _ _ ((rd_T121 l1_1 x5_2).f0) false _ ?side1 ?side2 ?side3 ?side4 A26.out).mono ?_); (case side1 => exact sd HR125_0); (case side2 => exact HC125_0.out); (case side3 => exact sd HR126_0); (case side4 => exact HC126_0.out); rintro e w' ⟨rfl, ⟨nd, rfl⟩⟩; (try first | exact ⟨rfl, _, World.drewN_drewN _ _ _⟩ | exact ⟨rfl, _, Eq.trans (World.drewN_drewN _ _ _) (congrArg (World.drewN _) (Nat.add_assoc _ _ _))⟩))); try go_wp2_with (first | (go_at_call 132; (with_reducible refine (spec_l03Same.calls k2 _ _ ((rd_T121 l0_1 x5_2).f0) _ _ ((rd_T121 l1_1 x5_2).f0) false _ ?side1 ?side2 ?side3 ?side4 A26.out).mono ?_); (case side1 => exact sd HR125_0); (case side2 => exact HC125_0.out); (case side3 => exact sd HR126_0); (case side4 => exact HC126_0.out); rintro e w' ⟨rfl, ⟨nd, rfl⟩⟩; (try first | exact ⟨rfl, _, World.drewN_drewN _ _ _⟩ | exact ⟨rfl, _, Eq.trans (World.drewN_drewN _ _ _) (congrArg (World.drewN _) (Nat.add_assoc _ _ _))⟩))))
                      go_meet
                      case rel => exact ⟨_, (true), (by first | rfl | (simp; done) | (simp [*]; done)), H', ⟨by have := HJ2.out; have := HK2.out; first | omega | exact Nat.le_refl _⟩, ⟨by refine bk (h := ?_); exact BK121.out⟩, ⟨by refine bk (h := ?_); exact BK122.out⟩, ⟨bw⟩⟩
                  · rw [if_neg c25] at H
                    exact absurd H (by simp)
                · rw [if_neg c24] at H
                  exact absurd H (by simp)
              case rest =>
                clear HC21
                try clear c1
                try clear p1
                try clear q1
                try clear hx1
                try clear c2
                try clear p2
                try clear c3
                try clear c6
                try clear c7
                try clear c8
                try clear c8b0
                try clear c8b1
                try clear c8b2
                try clear c10
                try clear c12
                try clear p12
                try clear q12
                try clear hx12
                try clear c13
                try clear c16
                try clear c19
                try clear c20
                try clear c20b0
                try clear c22
                try clear c24
                try clear c24b0
                try clear c25
                try clear c25b0
                try clear c27
                try clear c28
                try clear c31
                try clear z11_0 z11_1 z11_2 y11_0 y11_1 y11_2
                try clear z12_0 z12_1 z12_2 y12_0 y12_1 y12_2
                try clear z14_0 z14_1 z14_2 y14_0 y14_1 y14_2
                try clear z15_0 z15_1 z15_2 y15_0 y15_1 y15_2
                try clear z17_0 z17_1 z17_2 y17_0 y17_1 y17_2
                try clear z18_0 z18_1 z18_2 y18_0 y18_1 y18_2
                try clear z23_0 z23_1 z23_2 y23_0 y23_1 y23_2
                try clear z29_0 z29_1 z29_2 y29_0 y29_1 y29_2
                try clear z30_0 z30_1 z30_2 y30_0 y30_1 y30_2
                try clear z32_0 z32_1 z32_2 y32_0 y32_1 y32_2
                try clear z33_0 z33_1 z33_2 y33_0 y33_1 y33_2
                try clear hx125_0
                try clear hx125_1
                try clear hx125_2
                try clear hx125_3
                try clear hx125_4
                try clear hx125_5
                try clear hx125_6
                try clear hx125_7
                try clear hx125_8
                try clear hx126_0
                try clear hx126_1
                try clear hx126_2
                try clear hx126_3
                try clear hx126_4
                try clear hx126_5
                try clear hx126_6
                try clear hx126_7
                try clear hx126_8
                try clear hx128_0
                try clear hx128_1
                try clear hx128_2
                try clear hx128_3
                try clear hx128_4
                try clear hx128_5
                try clear hx128_6
                try clear hx128_7
                try clear hx128_8
                try clear hx129_0
                try clear hx129_1
                try clear hx129_2
                try clear hx129_3
                try clear hx129_4
                try clear hx129_5
                try clear hx129_6
                try clear hx129_7
                try clear hx129_8
                try clear p125
                try clear p126
                try clear p128
                try clear p129
                try clear p2
                try clear q125
                try clear q126
                try clear q128
                try clear q129
                obtain ⟨kq, x64_20, rfl, HA, HJ20, BK121, BK122, HB⟩ := hcut
                cases kq with
                | zero => exact absurd HA.out (by simp [spec_SameState.j2])
                | succ kj20 =>
                  have H := HA.out
                  clear HA
                  simp only [spec_SameState.j2] at H
                  by_cases c34 : x64_20 = true
                  · subst c34
                    rw [if_pos rfl] at H
                    obtain rfl := Option.some.inj H
                    go_wp2
                    repeat (go_quiet (fail); try go_wp2)
                    go_ret
                    exact ⟨er, bw⟩
                  · replace c34 := Bool.eq_false_iff.mpr c34
                    subst c34
                    rw [if_neg nf] at H
                    have H' := Aside0.mk H
                    clear H
                    go_wp2
                    repeat (go_quiet (fail); try go_wp2)
                    go_roundg kj20
                    case measure => have := HJ2.out; have := HK2.out; have := HJ20.out; omega
                    case rel => exact ⟨(wrap64 (x5_2 + 1)), (by first | rfl | (simp; done) | (simp [*]; done)), H', ⟨by have := HJ2.out; have := HK2.out; have := HJ20.out; omega⟩, ⟨by refine bk (h := ?_); exact BK121.out⟩, ⟨by refine bk (h := ?_); exact BK122.out⟩, ⟨bw⟩⟩
            · rw [if_neg c20] at H
              have c20b0 : decide (x5_2 < (l0_1.length : Int)) = false := decide_eq_false c20
              clear c20
              obtain rfl := Option.some.inj H
              have hnb35 := NB121_122.out
              have hnc35 := NB122_121.out
              obtain ⟨z36_0, z36_1, z36_2, y36_0, y36_1, y36_2⟩ := bq3 BK121
              go_wp2
              repeat (go_quiet (fail); try go_wp2)
              go_ret
              exact ⟨er, bw⟩

end Go.Proofs.Yteadienaeapaeaa.PC
