-- Made by a program of this session (myprint.py) out of the translation.
import Derived.Test.YteadienaeapaeaaZskPKx0
import Derived.Test.YteadienaeapaeaaZskPKx1
import Derived.Test.YteadienaeapaeaaZskPKx4
import Derived.Test.YteadienaeapaeaaZskPKx10
import Derived.Test.YteadienaeapaeaaZskShort
namespace Go.Proofs.Yteadienaeapaeaa.PK
open Go.Proofs.Yteadienaeapaeaa.Short
open Go.Proofs.Yteadienaeapaeaa.Dyn
open Go.RowKit Go.Proofs.YteadienaeapaeaaW.PrintWords Go.Proofs.YteadienaeapaeaaW.PrintLast Go.Proofs.YteadienaeapaeaaW.PrintMore
attribute [local go_sem] max2_int min2_int max_two min_two max_three min_three max_four min_four   -- for this text's walks alone
set_option linter.unusedVariables false
set_option linter.unusedSimpArgs false

/-! ### laws_heldInt64S: function 38 -/
def laws_heldInt64S.l0 : Nat → List Int → Int → Int → Option (Int)
  | 0, _, _, _ => none
  | k + 1, x0, x1, x5 => if x5 < (x0.length : Int) then (if 0 ≤ x5 then (if (rd x0 x5) = x1 then (laws_heldInt64S.l0 k x0 (wrap64 (x1 + 1)) (wrap64 (x5 + 1))) else (some (-1))) else (none)) else (some x1)
def laws_heldInt64S.f (k : Nat) (l0 : List Int) (a1 : Int) : Option (Int) := laws_heldInt64S.l0 k l0 a1 0
theorem laws_heldInt64S.mono_l : ∀ k, (∀ y0 y1 y2, LeO (laws_heldInt64S.l0 k y0 y1 y2) (laws_heldInt64S.l0 (k + 1) y0 y1 y2))
  | 0 => fun _ _ _ r h => by simp [laws_heldInt64S.l0] at h
  | k + 1 => by
    have ih0 := laws_heldInt64S.mono_l k
    · intro y0 y1 y2
      unfold laws_heldInt64S.l0
      repeat' first
      | (with_reducible exact ih0 _ _ _)
      | (with_reducible exact LeO.refl _)
      | (with_reducible exact LeO.none _)
      | (with_reducible refine LeO.ite ?_ ?_)
      | (with_reducible refine LeO.bind ?_ (fun _ => ?_))
      | exact ih0 _ _ _
      | exact LeO.none _
      | refine LeO.ite ?_ ?_
      | refine LeO.bind ?_ (fun _ => ?_)
theorem laws_heldInt64S.mono : ∀ a0 a1 k, LeO (laws_heldInt64S.f k a0 a1) (laws_heldInt64S.f (k + 1) a0 a1) := by
  intro a0 a1 k
  have ih0 := laws_heldInt64S.mono_l k
  unfold laws_heldInt64S.f
  repeat' first
      | (with_reducible exact ih0 _ _ _)
      | (with_reducible exact LeO.refl _)
      | (with_reducible exact LeO.none _)
      | (with_reducible refine LeO.ite ?_ ?_)
      | (with_reducible refine LeO.bind ?_ (fun _ => ?_))
      | exact ih0 _ _ _
      | exact LeO.none _
      | refine LeO.ite ?_ ?_
      | refine LeO.bind ?_ (fun _ => ?_)
set_option maxHeartbeats 8000000 in
set_option maxRecDepth 100000 in
theorem laws_heldInt64S.calls (k : Nat) (A0 : Option Addr) (c0 : Nat) (l0 : List Int) (a1 : Int) (r : Int) (w : World) (hr0 : Kd.C (Kd.int .i64) w A0 l0.length l0) (hc0 : l0.length ≤ c0) (h : laws_heldInt64S.f k l0 a1 = some r) :
    Calls Try.prog 38 #[.slice A0 l0.length c0, .int .i64 a1] w fun e w' => e = .returned (.int .i64 r) ∧ Drawn0 w w' := by
  have HR0 := Aside0.mk hr0
  have HC0 := Aside0.mk hc0
  clear hr0 hc0
  have H : (laws_heldInt64S.l0 k l0 a1 0) = some r := h
  clear h
  have H' := Aside0.mk H
  clear H
  go_enter Try.func38, Try.ntmps38
  go_wp2
  go_loopg [1, 5] k (fun kq v1 v5 w' => ∃ (x1_1 : Int) (x5_1 : Int), v1 = .int .i64 x1_1 ∧ v5 = .int .i64 x5_1 ∧ Aside0 (laws_heldInt64S.l0 kq l0 x1_1 x5_1 = some r) ∧ Aside0 (kq ≤ k) ∧ Drawn0 w w')
  case atStart => exact ⟨(a1), (0), (by first | rfl | (simp; done) | (simp [*]; done)), (by first | rfl | (simp; done) | (simp [*]; done)), H', ⟨Nat.le_refl _⟩, by repeat (first | exact Drawn0.refl _ | apply Drawn0.step)⟩
  case round =>
    clear H'
    try clear p2
    obtain ⟨x1_1, x5_1, rfl, rfl, HA, HK1, ⟨m1, rfl⟩⟩ := hrel
    cases gk with
    | zero => exact absurd HA.out (by simp [laws_heldInt64S.l0])
    | succ k1 =>
      have H := HA.out
      clear HA
      simp only [laws_heldInt64S.l0] at H
      by_cases c3 : x5_1 < (l0.length : Int)
      · rw [if_pos c3] at H
        have c3b0 : decide (x5_1 < (l0.length : Int)) = true := decide_eq_true c3
        clear c3
        by_cases c4 : 0 ≤ x5_1
        · rw [if_pos c4] at H
          have c4b0 : decide (0 ≤ x5_1) = true := decide_eq_true c4
          clear c4
          by_cases c5 : (rd l0 x5_1) = x1_1
          · rw [if_pos c5] at H
            have c5b0 : ((rd l0 x5_1) == x1_1) = true := beq_iff_eq.mpr c5
            have c5b1 : ((rd l0 x5_1) != x1_1) = false := bne_eq_false_iff_eq.mpr c5
            clear c5
            have H' := Aside0.mk H
            clear H
            have p236 : 0 ≤ (x5_1 : Int) := od
            have q236 : x5_1 < (l0.length : Int) := od
            obtain ⟨ad236, e236, hx236_0⟩ := Kd.at_int HR0.out x5_1 p236 q236
            cases e236
            replace p236 := eq_true p236
            replace q236 := eq_true q236
            go_wp2
            go_roundg k1
            case measure => have := HK1.out; omega
            case rel => exact ⟨(wrap64 (x1_1 + 1)), (wrap64 (x5_1 + 1)), (by first | rfl | (simp; done) | (simp [*]; done)), (by first | rfl | (simp; done) | (simp [*]; done)), H', ⟨by have := HK1.out; omega⟩, by repeat (first | exact Drawn0.refl _ | apply Drawn0.step)⟩
          · rw [if_neg c5] at H
            have c5b0 : ((rd l0 x5_1) == x1_1) = false := beq_eq_false_iff_ne.mpr c5
            have c5b1 : ((rd l0 x5_1) != x1_1) = true := bne_iff_ne.mpr c5
            obtain rfl := Option.some.inj H
            have p236 : 0 ≤ (x5_1 : Int) := od
            have q236 : x5_1 < (l0.length : Int) := od
            obtain ⟨ad236, e236, hx236_0⟩ := Kd.at_int HR0.out x5_1 p236 q236
            cases e236
            replace p236 := eq_true p236
            replace q236 := eq_true q236
            go_wp2
            go_ret
            exact ⟨by first | rfl | (simp; done) | (simp [*]; done), by repeat (first | exact Drawn0.refl _ | apply Drawn0.step)⟩
        · rw [if_neg c4] at H
          exact absurd H (by simp)
      · rw [if_neg c3] at H
        have c3b0 : decide (x5_1 < (l0.length : Int)) = false := decide_eq_false c3
        clear c3
        obtain rfl := Option.some.inj H
        go_wp2
        go_ret
        exact ⟨by first | rfl | (simp; done) | (simp [*]; done), by repeat (first | exact Drawn0.refl _ | apply Drawn0.step)⟩

/-! ### laws_FnExactStackKinds: function 8 -/
mutual
def laws_FnExactStackKinds.j0 : Nat → Int → Int → List Int → List Int → Int → List Int → List Int → Int → Bool → Option (Bool)
  | 0, _, _, _, _, _, _, _, _, _ => none
  | k + 1, x0, x1, x2, x7, x8, x9, x10, x11, x45 => if x45 = true then (some false) else ((laws_toInt64S.f k x2).bind fun t252 => ((laws_eqInt64S.f k x9 t252).bind fun t255 => (if t255 = true then ((laws_markInt64S.f k x9 1).bind fun bt256 => (if bt256.1 < 0 then (laws_FnExactStackKinds.j1 k x0 x1 x2 x7 x8 x10 true) else ((laws_eqInt64S.f k x10 x7).bind fun t258 => (if t258 = true then (laws_FnExactStackKinds.j1 k x0 x1 x2 x7 x8 x10 (x11 != x8)) else (laws_FnExactStackKinds.j1 k x0 x1 x2 x7 x8 x10 true))))) else (some false))))
def laws_FnExactStackKinds.j1 : Nat → Int → Int → List Int → List Int → Int → List Int → Bool → Option (Bool)
  | 0, _, _, _, _, _, _, _ => none
  | k + 1, x0, x1, x2, x7, x8, x10, x66 => if x66 = true then (some false) else ((laws_markInt64S.f k x10 1).bind fun bt259 => ((laws_heldInt64S.f k bt259.2 1).bind fun t261 => (if t261 < 0 then (some false) else (if t261 = bt259.1 then ((laws_toInt64S.f k x2).bind fun t262 => ((impl_StackKinds.f k x0 x1 t262).bind fun bt265 => ((laws_eqInt64S.f k bt265.1 x7).bind fun t269 => (if t269 = true then (laws_FnExactStackKinds.j2 k bt259.2 bt259.1 (bt265.2 != x8)) else (laws_FnExactStackKinds.j2 k bt259.2 bt259.1 true))))) else (some false)))))
def laws_FnExactStackKinds.j2 : Nat → List Int → Int → Bool → Option (Bool)
  | 0, _, _, _ => none
  | k + 1, x10, x13, x94 => if x94 = true then (some false) else ((laws_heldInt64S.f k x10 1).bind fun t270 => (if t270 < 0 then (some false) else (if t270 = x13 then (some true) else (some false))))
end
def laws_FnExactStackKinds.f (k : Nat) (a0 : Int) (a1 : Int) (l2 : List Int) : Option (Bool) := if (l2.length : Int) > 1048576 then (some true) else ((laws_toInt64S.f k l2).bind fun t237 => ((spec_StackKinds.f k a0 a1 t237).bind fun bt240 => ((laws_toInt64S.f k l2).bind fun t244 => ((impl_StackKinds.f k a0 a1 t244).bind fun bt247 => ((laws_eqInt64S.f k bt247.1 bt240.1).bind fun t251 => (if t251 = true then (laws_FnExactStackKinds.j0 k a0 a1 l2 bt240.1 bt240.2 t244 bt247.1 bt247.2 (bt247.2 != bt240.2)) else (laws_FnExactStackKinds.j0 k a0 a1 l2 bt240.1 bt240.2 t244 bt247.1 bt247.2 true)))))))
theorem laws_FnExactStackKinds.mono_l : ∀ k, (∀ y0 y1 y2 y3 y4 y5 y6 y7 y8, LeO (laws_FnExactStackKinds.j0 k y0 y1 y2 y3 y4 y5 y6 y7 y8) (laws_FnExactStackKinds.j0 (k + 1) y0 y1 y2 y3 y4 y5 y6 y7 y8)) ∧ (∀ y0 y1 y2 y3 y4 y5 y6, LeO (laws_FnExactStackKinds.j1 k y0 y1 y2 y3 y4 y5 y6) (laws_FnExactStackKinds.j1 (k + 1) y0 y1 y2 y3 y4 y5 y6)) ∧ (∀ y0 y1 y2, LeO (laws_FnExactStackKinds.j2 k y0 y1 y2) (laws_FnExactStackKinds.j2 (k + 1) y0 y1 y2))
  | 0 => ⟨fun _ _ _ _ _ _ _ _ _ r h => by simp [laws_FnExactStackKinds.j0] at h, fun _ _ _ _ _ _ _ r h => by simp [laws_FnExactStackKinds.j1] at h, fun _ _ _ r h => by simp [laws_FnExactStackKinds.j2] at h⟩
  | k + 1 => by
    obtain ⟨ih0, ih1, ih2⟩ := laws_FnExactStackKinds.mono_l k
    refine ⟨?_, ?_, ?_⟩
    · intro y0 y1 y2 y3 y4 y5 y6 y7 y8
      unfold laws_FnExactStackKinds.j0
      repeat' first
      | (with_reducible exact ih0 _ _ _ _ _ _ _ _ _)
      | (with_reducible exact ih1 _ _ _ _ _ _ _)
      | (with_reducible exact ih2 _ _ _)
      | (with_reducible exact impl_StackKinds.mono _ _ _ _)
      | (with_reducible exact laws_eqInt64S.mono _ _ _)
      | (with_reducible exact laws_heldInt64S.mono _ _ _)
      | (with_reducible exact laws_markInt64S.mono _ _ _)
      | (with_reducible exact laws_toInt64S.mono _ _)
      | (with_reducible exact spec_StackKinds.mono _ _ _ _)
      | (with_reducible exact LeO.refl _)
      | (with_reducible exact LeO.none _)
      | (with_reducible refine LeO.ite ?_ ?_)
      | (with_reducible refine LeO.bind ?_ (fun _ => ?_))
      | exact ih0 _ _ _ _ _ _ _ _ _
      | exact ih1 _ _ _ _ _ _ _
      | exact ih2 _ _ _
      | exact impl_StackKinds.mono _ _ _ _
      | exact laws_eqInt64S.mono _ _ _
      | exact laws_heldInt64S.mono _ _ _
      | exact laws_markInt64S.mono _ _ _
      | exact laws_toInt64S.mono _ _
      | exact spec_StackKinds.mono _ _ _ _
      | exact LeO.none _
      | refine LeO.ite ?_ ?_
      | refine LeO.bind ?_ (fun _ => ?_)
    · intro y0 y1 y2 y3 y4 y5 y6
      unfold laws_FnExactStackKinds.j1
      repeat' first
      | (with_reducible exact ih0 _ _ _ _ _ _ _ _ _)
      | (with_reducible exact ih1 _ _ _ _ _ _ _)
      | (with_reducible exact ih2 _ _ _)
      | (with_reducible exact impl_StackKinds.mono _ _ _ _)
      | (with_reducible exact laws_eqInt64S.mono _ _ _)
      | (with_reducible exact laws_heldInt64S.mono _ _ _)
      | (with_reducible exact laws_markInt64S.mono _ _ _)
      | (with_reducible exact laws_toInt64S.mono _ _)
      | (with_reducible exact spec_StackKinds.mono _ _ _ _)
      | (with_reducible exact LeO.refl _)
      | (with_reducible exact LeO.none _)
      | (with_reducible refine LeO.ite ?_ ?_)
      | (with_reducible refine LeO.bind ?_ (fun _ => ?_))
      | exact ih0 _ _ _ _ _ _ _ _ _
      | exact ih1 _ _ _ _ _ _ _
      | exact ih2 _ _ _
      | exact impl_StackKinds.mono _ _ _ _
      | exact laws_eqInt64S.mono _ _ _
      | exact laws_heldInt64S.mono _ _ _
      | exact laws_markInt64S.mono _ _ _
      | exact laws_toInt64S.mono _ _
      | exact spec_StackKinds.mono _ _ _ _
      | exact LeO.none _
      | refine LeO.ite ?_ ?_
      | refine LeO.bind ?_ (fun _ => ?_)
    · intro y0 y1 y2
      unfold laws_FnExactStackKinds.j2
      repeat' first
      | (with_reducible exact ih0 _ _ _ _ _ _ _ _ _)
      | (with_reducible exact ih1 _ _ _ _ _ _ _)
      | (with_reducible exact ih2 _ _ _)
      | (with_reducible exact impl_StackKinds.mono _ _ _ _)
      | (with_reducible exact laws_eqInt64S.mono _ _ _)
      | (with_reducible exact laws_heldInt64S.mono _ _ _)
      | (with_reducible exact laws_markInt64S.mono _ _ _)
      | (with_reducible exact laws_toInt64S.mono _ _)
      | (with_reducible exact spec_StackKinds.mono _ _ _ _)
      | (with_reducible exact LeO.refl _)
      | (with_reducible exact LeO.none _)
      | (with_reducible refine LeO.ite ?_ ?_)
      | (with_reducible refine LeO.bind ?_ (fun _ => ?_))
      | exact ih0 _ _ _ _ _ _ _ _ _
      | exact ih1 _ _ _ _ _ _ _
      | exact ih2 _ _ _
      | exact impl_StackKinds.mono _ _ _ _
      | exact laws_eqInt64S.mono _ _ _
      | exact laws_heldInt64S.mono _ _ _
      | exact laws_markInt64S.mono _ _ _
      | exact laws_toInt64S.mono _ _
      | exact spec_StackKinds.mono _ _ _ _
      | exact LeO.none _
      | refine LeO.ite ?_ ?_
      | refine LeO.bind ?_ (fun _ => ?_)
theorem laws_FnExactStackKinds.mono : ∀ a0 a1 a2 k, LeO (laws_FnExactStackKinds.f k a0 a1 a2) (laws_FnExactStackKinds.f (k + 1) a0 a1 a2) := by
  intro a0 a1 a2 k
  obtain ⟨ih0, ih1, ih2⟩ := laws_FnExactStackKinds.mono_l k
  unfold laws_FnExactStackKinds.f
  repeat' first
      | (with_reducible exact ih0 _ _ _ _ _ _ _ _ _)
      | (with_reducible exact ih1 _ _ _ _ _ _ _)
      | (with_reducible exact ih2 _ _ _)
      | (with_reducible exact impl_StackKinds.mono _ _ _ _)
      | (with_reducible exact laws_eqInt64S.mono _ _ _)
      | (with_reducible exact laws_heldInt64S.mono _ _ _)
      | (with_reducible exact laws_markInt64S.mono _ _ _)
      | (with_reducible exact laws_toInt64S.mono _ _)
      | (with_reducible exact spec_StackKinds.mono _ _ _ _)
      | (with_reducible exact LeO.refl _)
      | (with_reducible exact LeO.none _)
      | (with_reducible refine LeO.ite ?_ ?_)
      | (with_reducible refine LeO.bind ?_ (fun _ => ?_))
      | exact ih0 _ _ _ _ _ _ _ _ _
      | exact ih1 _ _ _ _ _ _ _
      | exact ih2 _ _ _
      | exact impl_StackKinds.mono _ _ _ _
      | exact laws_eqInt64S.mono _ _ _
      | exact laws_heldInt64S.mono _ _ _
      | exact laws_markInt64S.mono _ _ _
      | exact laws_toInt64S.mono _ _
      | exact spec_StackKinds.mono _ _ _ _
      | exact LeO.none _
      | refine LeO.ite ?_ ?_
      | refine LeO.bind ?_ (fun _ => ?_)
set_option maxHeartbeats 8000000 in
set_option maxRecDepth 100000 in
theorem laws_FnExactStackKinds.calls (k : Nat) (a0 : Int) (a1 : Int) (A2 : Option Addr) (c2 : Nat) (l2 : List Int) (r : Bool) (w : World) (hr2 : Kd.C (Kd.int .i64) w A2 l2.length l2) (hc2 : l2.length ≤ c2) (h : laws_FnExactStackKinds.f k a0 a1 l2 = some r) :
    Calls Try.prog 8 #[.int .i64 a0, .int .i64 a1, .slice A2 l2.length c2] w fun e w' => e = .returned (.bool r) ∧ Below w.heap.size w w' := by
  have HR2 := Aside0.mk hr2
  have HC2 := Aside0.mk hc2
  clear hr2 hc2
  have HB := Aside0.mk (Below.refl w.heap.size w)
  have H : (if (l2.length : Int) > 1048576 then (some true) else ((laws_toInt64S.f k l2).bind fun t237 => ((spec_StackKinds.f k a0 a1 t237).bind fun bt240 => ((laws_toInt64S.f k l2).bind fun t244 => ((impl_StackKinds.f k a0 a1 t244).bind fun bt247 => ((laws_eqInt64S.f k bt247.1 bt240.1).bind fun t251 => (if t251 = true then (laws_FnExactStackKinds.j0 k a0 a1 l2 bt240.1 bt240.2 t244 bt247.1 bt247.2 (bt247.2 != bt240.2)) else (laws_FnExactStackKinds.j0 k a0 a1 l2 bt240.1 bt240.2 t244 bt247.1 bt247.2 true)))))))) = some r := h
  clear h
  by_cases c4 : (l2.length : Int) > 1048576
  · rw [if_pos c4] at H
    have c4b0 : decide (1048576 < (l2.length : Int)) = true := decide_eq_true c4
    have c4b1 : decide (1048576 < l2.length) = true := decide_eq_true (by omega)
    clear c4
    obtain rfl := Option.some.inj H
    go_enter Try.func8, Try.ntmps8
    go_wp2
    go_ret
    exact ⟨er, bw⟩
  · rw [if_neg c4] at H
    have c4b0 : decide (1048576 < (l2.length : Int)) = false := decide_eq_false c4
    have c4b1 : decide (1048576 < l2.length) = false := decide_eq_false (by omega)
    clear c4
    replace H := Option.bind_eq_some_iff.mp H
    obtain ⟨t237, A50, H⟩ := H
    replace H : ((spec_StackKinds.f k a0 a1 t237).bind fun bt240 => ((laws_toInt64S.f k l2).bind fun t244 => ((impl_StackKinds.f k a0 a1 t244).bind fun bt247 => ((laws_eqInt64S.f k bt247.1 bt240.1).bind fun t251 => (if t251 = true then (laws_FnExactStackKinds.j0 k a0 a1 l2 bt240.1 bt240.2 t244 bt247.1 bt247.2 (bt247.2 != bt240.2)) else (laws_FnExactStackKinds.j0 k a0 a1 l2 bt240.1 bt240.2 t244 bt247.1 bt247.2 true)))))) = some r := H
    have A5 := Aside0.mk A50
    clear A50
    replace H := Option.bind_eq_some_iff.mp H
    obtain ⟨⟨t240, t241⟩, A60, H⟩ := H
    replace H : ((laws_toInt64S.f k l2).bind fun t244 => ((impl_StackKinds.f k a0 a1 t244).bind fun bt247 => ((laws_eqInt64S.f k bt247.1 t240).bind fun t251 => (if t251 = true then (laws_FnExactStackKinds.j0 k a0 a1 l2 t240 t241 t244 bt247.1 bt247.2 (bt247.2 != t241)) else (laws_FnExactStackKinds.j0 k a0 a1 l2 t240 t241 t244 bt247.1 bt247.2 true))))) = some r := H
    have A6 := Aside0.mk A60
    clear A60
    replace H := Option.bind_eq_some_iff.mp H
    obtain ⟨t244, A70, H⟩ := H
    replace H : ((impl_StackKinds.f k a0 a1 t244).bind fun bt247 => ((laws_eqInt64S.f k bt247.1 t240).bind fun t251 => (if t251 = true then (laws_FnExactStackKinds.j0 k a0 a1 l2 t240 t241 t244 bt247.1 bt247.2 (bt247.2 != t241)) else (laws_FnExactStackKinds.j0 k a0 a1 l2 t240 t241 t244 bt247.1 bt247.2 true)))) = some r := H
    have A7 := Aside0.mk A70
    clear A70
    replace H := Option.bind_eq_some_iff.mp H
    obtain ⟨⟨t247, t248⟩, A80, H⟩ := H
    replace H : ((laws_eqInt64S.f k t247 t240).bind fun t251 => (if t251 = true then (laws_FnExactStackKinds.j0 k a0 a1 l2 t240 t241 t244 t247 t248 (t248 != t241)) else (laws_FnExactStackKinds.j0 k a0 a1 l2 t240 t241 t244 t247 t248 true))) = some r := H
    have A8 := Aside0.mk A80
    clear A80
    have HC9 := Aside0.mk H
    clear H
    go_enter Try.func8, Try.ntmps8
    go_upto_region 6 with (first | ((with_reducible refine gate_callee (f := 23) rfl ?_); refine gl (some 24) Try.func23 #[.slice A2 l2.length c2] ?_; (with_reducible refine (laws_toInt64S.calls k _ _ l2 t237 _ ?side1 ?side2 A5.out).mono ?_); (case side1 => repeat (first | exact HR2.out | (with_reducible refine Kd.C_alloc ?_ _) | (with_reducible refine Kd.C_drewN ?_ _) | (with_reducible refine Kd.C_drew ?_))); (case side2 => exact HC2.out); rintro e w10 ⟨v238, rfl, ho0, hb⟩; refine ⟨_, rfl, ?_⟩; have HO239 := Aside0.mk (Kd.R_lower ho0 (below_size bw)); replace HB := bs hb; (try clear hb); (try clear hb2); (try clear hk); (try clear hi); (try clear ho0); obtain ⟨Ao11, co11, eo11⟩ := Kd.R_slice HO239.out; subst eo11) | ((with_reducible refine gate_callee (f := 36) rfl ?_); refine gl (some 25) Try.func36 #[.int .i64 a0, .int .i64 a1, .slice Ao11 t237.length co11] ?_; (with_reducible refine (spec_StackKinds.calls k a0 a1 _ _ t237 t240 t241 _ ?side1 ?side2 A6.out).mono ?_); (case side1 => exact se HO239); (case side2 => exact (Kd.R_reads' HO239.out).2.1); rintro e w12 ⟨v242, rfl, ho0, hb⟩; refine ⟨_, rfl, ?_⟩; have HO243 := Aside0.mk (Kd.R_lower (Kd.R_new' ho0 (Kd.R_lt (ra (h := HO239.out)))) (below_size bw)); replace HO239 := Aside0.mk (Kd.R_elder' (ra (h := HO239.out)) (Kd.R_base ho0) hb); replace HB := bs hb; (try clear hb); (try clear hb2); (try clear hk); (try clear hi); (try clear ho0)) | ((with_reducible refine gate_callee (f := 23) rfl ?_); refine gl (some 29) Try.func23 #[.slice A2 l2.length c2] ?_; (with_reducible refine (laws_toInt64S.calls k _ _ l2 t244 _ ?side1 ?side2 A7.out).mono ?_); (case side1 => exact sd HR2); (case side2 => exact HC2.out); rintro e w13 ⟨v245, rfl, ho0, hb⟩; refine ⟨_, rfl, ?_⟩; have HO246 := Aside0.mk (Kd.R_lower (Kd.R_new' (Kd.R_new' ho0 (Kd.R_lt (ra (h := HO239.out)))) (Kd.R_lt (ra (h := HO243.out)))) (below_size bw)); replace HO239 := Aside0.mk (Kd.R_elder' (ra (h := HO239.out)) (Kd.R_base ho0) hb); replace HO243 := Aside0.mk (Kd.R_elder' (ra (h := HO243.out)) (Kd.R_base ho0) hb); replace HB := bs hb; (try clear hb); (try clear hb2); (try clear hk); (try clear hi); (try clear ho0); obtain ⟨Ao14, co14, eo14⟩ := Kd.R_slice HO246.out; subst eo14) | ((with_reducible refine gate_callee (f := 37) rfl ?_); refine gl (some 34) Try.func37 #[.int .i64 a0, .int .i64 a1, .slice Ao14 t244.length co14] ?_; (with_reducible refine (impl_StackKinds.calls k a0 a1 _ _ t244 t247 t248 _ ?side1 ?side2 A8.out).mono ?_); (case side1 => exact se HO246); (case side2 => exact (Kd.R_reads' HO246.out).2.1); rintro e w15 ⟨v249, rfl, ho0, hb⟩; refine ⟨_, rfl, ?_⟩; have HO250 := Aside0.mk (Kd.R_lower (Kd.R_new' (Kd.R_new' (Kd.R_new' ho0 (Kd.R_lt (ra (h := HO239.out)))) (Kd.R_lt (ra (h := HO243.out)))) (Kd.R_lt (ra (h := HO246.out)))) (below_size bw)); replace HO239 := Aside0.mk (Kd.R_elder' (ra (h := HO239.out)) (Kd.R_base ho0) hb); replace HO243 := Aside0.mk (Kd.R_elder' (ra (h := HO243.out)) (Kd.R_base ho0) hb); replace HO246 := Aside0.mk (Kd.R_elder' (ra (h := HO246.out)) (Kd.R_base ho0) hb); replace HB := bs hb; (try clear hb); (try clear hb2); (try clear hk); (try clear hi); (try clear ho0)))
    (try simp only [Act.put, List.setIfInBounds_toArray, List.set_cons_zero, List.set_cons_succ])
    go_cut [45] (fun v45 wc => ∃ (kq : Nat) (x45_8 : Bool), v45 = .bool x45_8 ∧ Aside0 (laws_FnExactStackKinds.j0 kq a0 a1 l2 t240 t241 t244 t247 t248 x45_8 = some r) ∧ Aside0 (kq ≤ k) ∧ Aside0 (Kd.R (Kd.int .i64) 2 wc w.heap.size (fun k_ => some k_ ≠ ((.slice Ao14 t244.length co14) : Value).ownBlock ∧ some k_ ≠ (v249 : Value).ownBlock) v242 t240) ∧ Aside0 (Kd.R (Kd.int .i64) 2 wc w.heap.size (fun k_ => some k_ ≠ (v242 : Value).ownBlock ∧ some k_ ≠ (v249 : Value).ownBlock) (.slice Ao14 t244.length co14) t244) ∧ Aside0 (Kd.R (Kd.int .i64) 2 wc w.heap.size (fun k_ => some k_ ≠ (v242 : Value).ownBlock ∧ some k_ ≠ ((.slice Ao14 t244.length co14) : Value).ownBlock) v249 t247) ∧ Aside0 (Below w.heap.size w wc))
    case first =>
      have H := HC9.out
      clear HC9
      replace H := Option.bind_eq_some_iff.mp H
      obtain ⟨t251, A160, H⟩ := H
      replace H : (if t251 = true then (laws_FnExactStackKinds.j0 k a0 a1 l2 t240 t241 t244 t247 t248 (t248 != t241)) else (laws_FnExactStackKinds.j0 k a0 a1 l2 t240 t241 t244 t247 t248 true)) = some r := H
      have A16 := Aside0.mk A160
      clear A160
      by_cases c17 : t251 = true
      · subst c17
        rw [if_pos rfl] at H
        have H' := Aside0.mk H
        clear H
        obtain ⟨Ao18, co18, eo18⟩ := Kd.R_slice HO250.out
        subst eo18
        obtain ⟨Ao19, co19, eo19⟩ := Kd.R_slice HO243.out
        subst eo19
        go_wp2_with (first | ((with_reducible refine gate_callee (f := 25) rfl ?_); refine gl (some 39) Try.func25 #[.slice Ao18 t247.length co18, .slice Ao19 t240.length co19] ?_; (with_reducible refine (laws_eqInt64S.calls k _ _ t247 _ _ t240 true _ ?side1 ?side2 ?side3 ?side4 A16.out).mono ?_); (case side1 => exact se HO250); (case side2 => exact (Kd.R_reads' HO250.out).2.1); (case side3 => exact se HO243); (case side4 => exact (Kd.R_reads' HO243.out).2.1); rintro e w' ⟨rfl, ⟨nd, rfl⟩⟩; refine ⟨_, rfl, ?_⟩))
        go_meet
        case rel => exact ⟨_, ((t248 != t241)), (by first | rfl | (simp; done) | (simp [*]; done)), H', ⟨by first | omega | exact Nat.le_refl _⟩, ⟨by refine ra (h := ?_); exact Kd.R_mono HO243.out (fun _ hk => ⟨hk.1.2, hk.2⟩)⟩, ⟨by refine ra (h := ?_); exact Kd.R_mono HO246.out (fun _ hk => ⟨hk.1.2, hk.2⟩)⟩, ⟨by refine ra (h := ?_); exact Kd.R_mono HO250.out (fun _ hk => ⟨hk.1.2, hk.2⟩)⟩, ⟨bw⟩⟩
      · replace c17 := Bool.eq_false_iff.mpr c17
        subst c17
        rw [if_neg nf] at H
        have H' := Aside0.mk H
        clear H
        obtain ⟨Ao20, co20, eo20⟩ := Kd.R_slice HO250.out
        subst eo20
        obtain ⟨Ao21, co21, eo21⟩ := Kd.R_slice HO243.out
        subst eo21
        go_wp2_with (first | ((with_reducible refine gate_callee (f := 25) rfl ?_); refine gl (some 39) Try.func25 #[.slice Ao20 t247.length co20, .slice Ao21 t240.length co21] ?_; (with_reducible refine (laws_eqInt64S.calls k _ _ t247 _ _ t240 false _ ?side1 ?side2 ?side3 ?side4 A16.out).mono ?_); (case side1 => exact se HO250); (case side2 => exact (Kd.R_reads' HO250.out).2.1); (case side3 => exact se HO243); (case side4 => exact (Kd.R_reads' HO243.out).2.1); rintro e w' ⟨rfl, ⟨nd, rfl⟩⟩; refine ⟨_, rfl, ?_⟩))
        go_meet
        case rel => exact ⟨_, (true), (by first | rfl | (simp; done) | (simp [*]; done)), H', ⟨by first | omega | exact Nat.le_refl _⟩, ⟨by refine ra (h := ?_); exact Kd.R_mono HO243.out (fun _ hk => ⟨hk.1.2, hk.2⟩)⟩, ⟨by refine ra (h := ?_); exact Kd.R_mono HO246.out (fun _ hk => ⟨hk.1.2, hk.2⟩)⟩, ⟨by refine ra (h := ?_); exact Kd.R_mono HO250.out (fun _ hk => ⟨hk.1.2, hk.2⟩)⟩, ⟨bw⟩⟩
    case rest =>
      clear HC9
      try clear c1
      try clear c2
      try clear p2
      try clear c3
      try clear c4
      try clear c4b0
      try clear c4b1
      try clear c8
      try clear c17
      obtain ⟨kq, x45_8, rfl, HA, HJ8, HO_7, HO_9, HO_10, HB⟩ := hcut
      cases kq with
      | zero => exact absurd HA.out (by simp [laws_FnExactStackKinds.j0])
      | succ kj8 =>
        have H := HA.out
        clear HA
        simp only [laws_FnExactStackKinds.j0] at H
        by_cases c22 : x45_8 = true
        · subst c22
          rw [if_pos rfl] at H
          obtain rfl := Option.some.inj H
          go_wp2
          go_ret
          exact ⟨er, bw⟩
        · replace c22 := Bool.eq_false_iff.mpr c22
          subst c22
          rw [if_neg nf] at H
          replace H := Option.bind_eq_some_iff.mp H
          obtain ⟨t252, A230, H⟩ := H
          replace H : ((laws_eqInt64S.f kj8 t244 t252).bind fun t255 => (if t255 = true then ((laws_markInt64S.f kj8 t244 1).bind fun bt256 => (if bt256.1 < 0 then (laws_FnExactStackKinds.j1 kj8 a0 a1 l2 t240 t241 t247 true) else ((laws_eqInt64S.f kj8 t247 t240).bind fun t258 => (if t258 = true then (laws_FnExactStackKinds.j1 kj8 a0 a1 l2 t240 t241 t247 (t248 != t241)) else (laws_FnExactStackKinds.j1 kj8 a0 a1 l2 t240 t241 t247 true))))) else (some false))) = some r := H
          have A23 := Aside0.mk A230
          clear A230
          replace H := Option.bind_eq_some_iff.mp H
          obtain ⟨t255, A240, H⟩ := H
          replace H : (if t255 = true then ((laws_markInt64S.f kj8 t244 1).bind fun bt256 => (if bt256.1 < 0 then (laws_FnExactStackKinds.j1 kj8 a0 a1 l2 t240 t241 t247 true) else ((laws_eqInt64S.f kj8 t247 t240).bind fun t258 => (if t258 = true then (laws_FnExactStackKinds.j1 kj8 a0 a1 l2 t240 t241 t247 (t248 != t241)) else (laws_FnExactStackKinds.j1 kj8 a0 a1 l2 t240 t241 t247 true))))) else (some false)) = some r := H
          have A24 := Aside0.mk A240
          clear A240
          by_cases c25 : t255 = true
          · subst c25
            rw [if_pos rfl] at H
            replace H := Option.bind_eq_some_iff.mp H
            obtain ⟨⟨t256, t257⟩, A260, H⟩ := H
            replace H : (if t256 < 0 then (laws_FnExactStackKinds.j1 kj8 a0 a1 l2 t240 t241 t247 true) else ((laws_eqInt64S.f kj8 t247 t240).bind fun t258 => (if t258 = true then (laws_FnExactStackKinds.j1 kj8 a0 a1 l2 t240 t241 t247 (t248 != t241)) else (laws_FnExactStackKinds.j1 kj8 a0 a1 l2 t240 t241 t247 true)))) = some r := H
            have A26 := Aside0.mk A260
            clear A260
            have HC27 := Aside0.mk H
            clear H
            go_upto_region 12 with (first | ((with_reducible refine gate_callee (f := 23) rfl ?_); refine gl (some 48) Try.func23 #[.slice A2 l2.length c2] ?_; (with_reducible refine (laws_toInt64S.calls kj8 _ _ l2 t252 _ ?side1 ?side2 A23.out).mono ?_); (case side1 => exact sd HR2); (case side2 => exact HC2.out); rintro e w28 ⟨v253, rfl, ho0, hb⟩; refine ⟨_, rfl, ?_⟩; have HO254 := Aside0.mk (Kd.R_lower (Kd.R_new' (Kd.R_new' (Kd.R_new' ho0 (Kd.R_lt (ra (h := HO_7.out)))) (Kd.R_lt (ra (h := HO_9.out)))) (Kd.R_lt (ra (h := HO_10.out)))) (below_size bw)); replace HO_7 := Aside0.mk (Kd.R_elder' (ra (h := HO_7.out)) (Kd.R_base ho0) hb); replace HO_9 := Aside0.mk (Kd.R_elder' (ra (h := HO_9.out)) (Kd.R_base ho0) hb); replace HO_10 := Aside0.mk (Kd.R_elder' (ra (h := HO_10.out)) (Kd.R_base ho0) hb); replace HB := bs hb; (try clear hb); (try clear hb2); (try clear hk); (try clear hi); (try clear ho0); obtain ⟨Ao29, co29, eo29⟩ := Kd.R_slice HO254.out; subst eo29) | ((with_reducible refine gate_callee (f := 25) rfl ?_); refine gl (some 49) Try.func25 #[.slice Ao14 t244.length co14, .slice Ao29 t252.length co29] ?_; (with_reducible refine (laws_eqInt64S.calls kj8 _ _ t244 _ _ t252 true _ ?side1 ?side2 ?side3 ?side4 A24.out).mono ?_); (case side1 => exact se HO_9); (case side2 => exact (Kd.R_reads' HO_9.out).2.1); (case side3 => exact se HO254); (case side4 => exact (Kd.R_reads' HO254.out).2.1); rintro e w' ⟨rfl, ⟨nd, rfl⟩⟩; refine ⟨_, rfl, ?_⟩) | ((with_reducible refine gate_callee (f := 33) rfl ?_); refine gl (some 53) Try.func33 #[.slice Ao14 t244.length co14, .int .i64 1] ?_; (with_reducible refine (laws_markInt64S.calls kj8 (fun k_ => some k_ = (.slice Ao14 t244.length co14 : Value).ownBlock) (.slice Ao14 t244.length co14) t244 1 t256 t257 w _ ?side1 ?side2 A26.out).mono ?_); (case side1 => repeat (first | (with_reducible first | exact HB.out | apply below_alloc | apply pw_below_drewN | apply below_drew1) | exact HB.out)); (case side2 => exact Kd.R_tight rfl HO_9.out); rintro e w30 ⟨rfl, hy0, hb, hkp⟩; refine ⟨_, rfl, ?_⟩; replace HO_7 := Aside0.mk (Kd.R_mono (ok' := fun k_ => some k_ ≠ (.slice Ao14 t244.length co14 : Value).ownBlock ∧ some k_ ≠ (v249 : Value).ownBlock ∧ some k_ ≠ (.slice Ao29 t252.length co29 : Value).ownBlock) (Kd.R_keptB (HO_7.out) hkp (fun k_ hk_ hs_ => (hk_.1.1) hs_)) (fun k_ hk_ => ⟨hk_.1.1.1, hk_.1.1.2, hk_.1.2⟩)); replace HO_9 := Aside0.mk (Kd.R_reok rfl hy0 (fun k_ e_ => HO_9.out.1 k_ e_)); replace HO_10 := Aside0.mk (Kd.R_mono (ok' := fun k_ => some k_ ≠ (v242 : Value).ownBlock ∧ some k_ ≠ (.slice Ao14 t244.length co14 : Value).ownBlock ∧ some k_ ≠ (.slice Ao29 t252.length co29 : Value).ownBlock) (Kd.R_keptB (HO_10.out) hkp (fun k_ hk_ hs_ => (hk_.1.2) hs_)) (fun k_ hk_ => ⟨hk_.1.1.1, hk_.1.1.2, hk_.1.2⟩)); replace HO254 := Aside0.mk (Kd.R_mono (ok' := fun k_ => some k_ ≠ (v242 : Value).ownBlock ∧ some k_ ≠ (.slice Ao14 t244.length co14 : Value).ownBlock ∧ some k_ ≠ (v249 : Value).ownBlock) (Kd.R_keptB (HO254.out) hkp (fun k_ hk_ hs_ => (hk_.1.2) hs_)) (fun k_ hk_ => ⟨hk_.1.1.1.2, hk_.1.1.2, hk_.1.2⟩)); replace HB := Aside0.mk (hb); (try clear hb); (try clear hkp); (try clear hy0)))
            (try simp only [Act.put, List.setIfInBounds_toArray, List.set_cons_zero, List.set_cons_succ])
            go_cut [66] (fun v66 wc => ∃ (kq : Nat) (x66_26 : Bool), v66 = .bool x66_26 ∧ Aside0 (laws_FnExactStackKinds.j1 kq a0 a1 l2 t240 t241 t247 x66_26 = some r) ∧ Aside0 (kq ≤ kj8) ∧ Aside0 (Kd.R (Kd.int .i64) 2 wc w.heap.size (fun k_ => some k_ ≠ (v249 : Value).ownBlock) v242 t240) ∧ Aside0 (Kd.R (Kd.int .i64) 2 wc w.heap.size (fun k_ => some k_ ≠ (v242 : Value).ownBlock) v249 t247) ∧ Aside0 (Below w.heap.size w wc))
            case first =>
              have H := HC27.out
              clear HC27
              by_cases c31 : t256 < 0
              · rw [if_pos c31] at H
                have c31b0 : decide (t256 < 0) = true := decide_eq_true c31
                clear c31
                (first | rw [c31b0] | (simp only [i64_w, i32_w]; rw [c31b0]) | skip)
                have H' := Aside0.mk H
                clear H
                go_wp2
                go_meet
                case rel => exact ⟨_, (true), (by first | rfl | (simp; done) | (simp [*]; done)), H', ⟨by have := HJ8.out; first | omega | exact Nat.le_refl _⟩, ⟨by refine ra (h := ?_); exact Kd.R_mono HO_7.out (fun _ hk => hk.2.1)⟩, ⟨by refine ra (h := ?_); exact Kd.R_mono HO_10.out (fun _ hk => hk.1)⟩, ⟨bw⟩⟩
              · rw [if_neg c31] at H
                have c31b0 : decide (t256 < 0) = false := decide_eq_false c31
                clear c31
                (first | rw [c31b0] | (simp only [i64_w, i32_w]; rw [c31b0]) | skip)
                replace H := Option.bind_eq_some_iff.mp H
                obtain ⟨t258, A320, H⟩ := H
                replace H : (if t258 = true then (laws_FnExactStackKinds.j1 kj8 a0 a1 l2 t240 t241 t247 (t248 != t241)) else (laws_FnExactStackKinds.j1 kj8 a0 a1 l2 t240 t241 t247 true)) = some r := H
                have A32 := Aside0.mk A320
                clear A320
                by_cases c33 : t258 = true
                · subst c33
                  rw [if_pos rfl] at H
                  have H' := Aside0.mk H
                  clear H
                  obtain ⟨Ao34, co34, eo34⟩ := Kd.R_slice HO_10.out
                  subst eo34
                  obtain ⟨Ao35, co35, eo35⟩ := Kd.R_slice HO_7.out
                  subst eo35
                  go_wp2_with (first | (go_at_call 25; (with_reducible refine (laws_eqInt64S.calls kj8 _ _ t247 _ _ t240 true _ ?side1 ?side2 ?side3 ?side4 A32.out).mono ?_); (case side1 => exact se HO_10); (case side2 => exact (Kd.R_reads' HO_10.out).2.1); (case side3 => exact se HO_7); (case side4 => exact (Kd.R_reads' HO_7.out).2.1); rintro e w' ⟨rfl, ⟨nd, rfl⟩⟩))
                  go_meet
                  case rel => exact ⟨_, ((t248 != t241)), (by first | rfl | (simp; done) | (simp [*]; done)), H', ⟨by have := HJ8.out; first | omega | exact Nat.le_refl _⟩, ⟨by refine ra (h := ?_); exact Kd.R_mono HO_7.out (fun _ hk => hk.2.1)⟩, ⟨by refine ra (h := ?_); exact Kd.R_mono HO_10.out (fun _ hk => hk.1)⟩, ⟨bw⟩⟩
                · replace c33 := Bool.eq_false_iff.mpr c33
                  subst c33
                  rw [if_neg nf] at H
                  have H' := Aside0.mk H
                  clear H
                  obtain ⟨Ao36, co36, eo36⟩ := Kd.R_slice HO_10.out
                  subst eo36
                  obtain ⟨Ao37, co37, eo37⟩ := Kd.R_slice HO_7.out
                  subst eo37
                  go_wp2_with (first | (go_at_call 25; (with_reducible refine (laws_eqInt64S.calls kj8 _ _ t247 _ _ t240 false _ ?side1 ?side2 ?side3 ?side4 A32.out).mono ?_); (case side1 => exact se HO_10); (case side2 => exact (Kd.R_reads' HO_10.out).2.1); (case side3 => exact se HO_7); (case side4 => exact (Kd.R_reads' HO_7.out).2.1); rintro e w' ⟨rfl, ⟨nd, rfl⟩⟩))
                  go_meet
                  case rel => exact ⟨_, (true), (by first | rfl | (simp; done) | (simp [*]; done)), H', ⟨by have := HJ8.out; first | omega | exact Nat.le_refl _⟩, ⟨by refine ra (h := ?_); exact Kd.R_mono HO_7.out (fun _ hk => hk.2.1)⟩, ⟨by refine ra (h := ?_); exact Kd.R_mono HO_10.out (fun _ hk => hk.1)⟩, ⟨bw⟩⟩
            case rest =>
              clear HC27
              try clear c1
              try clear c2
              try clear p2
              try clear c3
              try clear c4
              try clear c4b0
              try clear c4b1
              try clear c8
              try clear c17
              try clear c22
              try clear c23
              try clear c25
              try clear c31
              try clear c31b0
              try clear c33
              try clear c36
              try clear c37
              try clear p2
              obtain ⟨kq, x66_26, rfl, HA, HJ26, HO_7, HO_10, HB⟩ := hcut
              cases kq with
              | zero => exact absurd HA.out (by simp [laws_FnExactStackKinds.j1])
              | succ kj26 =>
                have H := HA.out
                clear HA
                simp only [laws_FnExactStackKinds.j1] at H
                by_cases c38 : x66_26 = true
                · subst c38
                  rw [if_pos rfl] at H
                  obtain rfl := Option.some.inj H
                  go_wp2
                  go_ret
                  exact ⟨er, bw⟩
                · replace c38 := Bool.eq_false_iff.mpr c38
                  subst c38
                  rw [if_neg nf] at H
                  replace H := Option.bind_eq_some_iff.mp H
                  obtain ⟨⟨t259, t260⟩, A390, H⟩ := H
                  replace H : ((laws_heldInt64S.f kj26 t260 1).bind fun t261 => (if t261 < 0 then (some false) else (if t261 = t259 then ((laws_toInt64S.f kj26 l2).bind fun t262 => ((impl_StackKinds.f kj26 a0 a1 t262).bind fun bt265 => ((laws_eqInt64S.f kj26 bt265.1 t240).bind fun t269 => (if t269 = true then (laws_FnExactStackKinds.j2 kj26 t260 t259 (bt265.2 != t241)) else (laws_FnExactStackKinds.j2 kj26 t260 t259 true))))) else (some false)))) = some r := H
                  have A39 := Aside0.mk A390
                  clear A390
                  replace H := Option.bind_eq_some_iff.mp H
                  obtain ⟨t261, A400, H⟩ := H
                  replace H : (if t261 < 0 then (some false) else (if t261 = t259 then ((laws_toInt64S.f kj26 l2).bind fun t262 => ((impl_StackKinds.f kj26 a0 a1 t262).bind fun bt265 => ((laws_eqInt64S.f kj26 bt265.1 t240).bind fun t269 => (if t269 = true then (laws_FnExactStackKinds.j2 kj26 t260 t259 (bt265.2 != t241)) else (laws_FnExactStackKinds.j2 kj26 t260 t259 true))))) else (some false))) = some r := H
                  have A40 := Aside0.mk A400
                  clear A400
                  by_cases c41 : t261 < 0
                  · rw [if_pos c41] at H
                    have c41b0 : decide (t261 < 0) = true := decide_eq_true c41
                    clear c41
                    obtain rfl := Option.some.inj H
                    obtain ⟨Ao42, co42, eo42⟩ := Kd.R_slice HO_10.out
                    subst eo42
                    go_wp2_with (first | ((with_reducible refine gate_callee (f := 33) rfl ?_); refine gl (some 69) Try.func33 #[.slice Ao42 t247.length co42, .int .i64 1] ?_; (with_reducible refine (laws_markInt64S.calls kj26 (fun k_ => some k_ = (.slice Ao42 t247.length co42 : Value).ownBlock) (.slice Ao42 t247.length co42) t247 1 t259 t260 w _ ?side1 ?side2 A39.out).mono ?_); (case side1 => repeat (first | (with_reducible first | exact HB.out | apply below_alloc | apply pw_below_drewN | apply below_drew1) | exact HB.out)); (case side2 => exact Kd.R_tight rfl HO_10.out); rintro e w43 ⟨rfl, hy0, hb, hkp⟩; refine ⟨_, rfl, ?_⟩; replace HO_7 := Aside0.mk (Kd.R_mono (ok' := fun k_ => some k_ ≠ (.slice Ao42 t247.length co42 : Value).ownBlock) (Kd.R_keptB (HO_7.out) hkp (fun k_ hk_ hs_ => (hk_) hs_)) (fun k_ hk_ => hk_.1)); replace HO_10 := Aside0.mk (Kd.R_reok rfl hy0 (fun k_ e_ => HO_10.out.1 k_ e_)); replace HB := Aside0.mk (hb); (try clear hb); (try clear hkp); (try clear hy0)) | ((with_reducible refine gate_callee (f := 38) rfl ?_); refine goesL_ (some 72) rfl rfl Try.func38 (by kernel_rfl) rfl #[.slice Ao42 t260.length co42, .int .i64 1] rfl (by (try simp only [List.map_toArray, List.map_cons, List.map_nil]); first | done | (rw [show t260.length = t247.length from (Kd.R_reads' HO_10.out).1.symm] <;> rfl) | rfl | (simp only [List.length_drop, List.length_take]; rfl)) ?_; (with_reducible refine (laws_heldInt64S.calls kj26 _ _ t260 1 t261 _ ?side1 ?side2 A40.out).mono ?_); (case side1 => exact se HO_10); (case side2 => rw [show t260.length = t247.length from (Kd.R_reads' HO_10.out).1.symm]; exact (Kd.R_reads' HO_10.out).2.1); rintro e w' ⟨rfl, ⟨nd, rfl⟩⟩; refine ⟨_, rfl, ?_⟩))
                    go_ret
                    exact ⟨er, bw⟩
                  · rw [if_neg c41] at H
                    have c41b0 : decide (t261 < 0) = false := decide_eq_false c41
                    clear c41
                    by_cases c44 : t261 = t259
                    · rw [if_pos c44] at H
                      have c44b0 : (t261 == t259) = true := beq_iff_eq.mpr c44
                      have c44b1 : (t261 != t259) = false := bne_eq_false_iff_eq.mpr c44
                      clear c44
                      replace H := Option.bind_eq_some_iff.mp H
                      obtain ⟨t262, A450, H⟩ := H
                      replace H : ((impl_StackKinds.f kj26 a0 a1 t262).bind fun bt265 => ((laws_eqInt64S.f kj26 bt265.1 t240).bind fun t269 => (if t269 = true then (laws_FnExactStackKinds.j2 kj26 t260 t259 (bt265.2 != t241)) else (laws_FnExactStackKinds.j2 kj26 t260 t259 true)))) = some r := H
                      have A45 := Aside0.mk A450
                      clear A450
                      replace H := Option.bind_eq_some_iff.mp H
                      obtain ⟨⟨t265, t266⟩, A460, H⟩ := H
                      replace H : ((laws_eqInt64S.f kj26 t265 t240).bind fun t269 => (if t269 = true then (laws_FnExactStackKinds.j2 kj26 t260 t259 (t266 != t241)) else (laws_FnExactStackKinds.j2 kj26 t260 t259 true))) = some r := H
                      have A46 := Aside0.mk A460
                      clear A460
                      have HC47 := Aside0.mk H
                      clear H
                      obtain ⟨Ao48, co48, eo48⟩ := Kd.R_slice HO_10.out
                      subst eo48
                      go_upto_region 23 with (first | ((with_reducible refine gate_callee (f := 33) rfl ?_); refine gl (some 69) Try.func33 #[.slice Ao48 t247.length co48, .int .i64 1] ?_; (with_reducible refine (laws_markInt64S.calls kj26 (fun k_ => some k_ = (.slice Ao48 t247.length co48 : Value).ownBlock) (.slice Ao48 t247.length co48) t247 1 t259 t260 w _ ?side1 ?side2 A39.out).mono ?_); (case side1 => repeat (first | (with_reducible first | exact HB.out | apply below_alloc | apply pw_below_drewN | apply below_drew1) | exact HB.out)); (case side2 => exact Kd.R_tight rfl HO_10.out); rintro e w49 ⟨rfl, hy0, hb, hkp⟩; refine ⟨_, rfl, ?_⟩; replace HO_7 := Aside0.mk (Kd.R_mono (ok' := fun k_ => some k_ ≠ (.slice Ao48 t247.length co48 : Value).ownBlock) (Kd.R_keptB (HO_7.out) hkp (fun k_ hk_ hs_ => (hk_) hs_)) (fun k_ hk_ => hk_.1)); replace HO_10 := Aside0.mk (Kd.R_reok rfl hy0 (fun k_ e_ => HO_10.out.1 k_ e_)); replace HB := Aside0.mk (hb); (try clear hb); (try clear hkp); (try clear hy0)) | ((with_reducible refine gate_callee (f := 38) rfl ?_); refine goesL_ (some 72) rfl rfl Try.func38 (by kernel_rfl) rfl #[.slice Ao48 t260.length co48, .int .i64 1] rfl (by (try simp only [List.map_toArray, List.map_cons, List.map_nil]); first | done | (rw [show t260.length = t247.length from (Kd.R_reads' HO_10.out).1.symm] <;> rfl) | rfl | (simp only [List.length_drop, List.length_take]; rfl)) ?_; (with_reducible refine (laws_heldInt64S.calls kj26 _ _ t260 1 t261 _ ?side1 ?side2 A40.out).mono ?_); (case side1 => exact se HO_10); (case side2 => rw [show t260.length = t247.length from (Kd.R_reads' HO_10.out).1.symm]; exact (Kd.R_reads' HO_10.out).2.1); rintro e w' ⟨rfl, ⟨nd, rfl⟩⟩; refine ⟨_, rfl, ?_⟩) | ((with_reducible refine gate_callee (f := 23) rfl ?_); refine gl (some 82) Try.func23 #[.slice A2 l2.length c2] ?_; (with_reducible refine (laws_toInt64S.calls kj26 _ _ l2 t262 _ ?side1 ?side2 A45.out).mono ?_); (case side1 => repeat (first | exact (Kd.C_below HR2.out bw) | (with_reducible refine Kd.C_alloc ?_ _) | (with_reducible refine Kd.C_drewN ?_ _) | (with_reducible refine Kd.C_drew ?_))); (case side2 => exact HC2.out); rintro e w50 ⟨v263, rfl, ho0, hb⟩; refine ⟨_, rfl, ?_⟩; have HO264 := Aside0.mk (Kd.R_lower (Kd.R_new' (Kd.R_new' ho0 (Kd.R_lt (ra (h := HO_7.out)))) (Kd.R_lt (ra (h := HO_10.out)))) (below_size bw)); replace HO_7 := Aside0.mk (Kd.R_elder' (ra (h := HO_7.out)) (Kd.R_base ho0) hb); replace HO_10 := Aside0.mk (Kd.R_elder' (ra (h := HO_10.out)) (Kd.R_base ho0) hb); replace HB := bs hb; (try clear hb); (try clear hb2); (try clear hk); (try clear hi); (try clear ho0); obtain ⟨Ao51, co51, eo51⟩ := Kd.R_slice HO264.out; subst eo51) | ((with_reducible refine gate_callee (f := 37) rfl ?_); refine gl (some 83) Try.func37 #[.int .i64 a0, .int .i64 a1, .slice Ao51 t262.length co51] ?_; (with_reducible refine (impl_StackKinds.calls kj26 a0 a1 _ _ t262 t265 t266 _ ?side1 ?side2 A46.out).mono ?_); (case side1 => exact se HO264); (case side2 => exact (Kd.R_reads' HO264.out).2.1); rintro e w52 ⟨v267, rfl, ho0, hb⟩; refine ⟨_, rfl, ?_⟩; have HO268 := Aside0.mk (Kd.R_lower (Kd.R_new' (Kd.R_new' (Kd.R_new' ho0 (Kd.R_lt (ra (h := HO_7.out)))) (Kd.R_lt (ra (h := HO_10.out)))) (Kd.R_lt (ra (h := HO264.out)))) (below_size bw)); replace HO_7 := Aside0.mk (Kd.R_elder' (ra (h := HO_7.out)) (Kd.R_base ho0) hb); replace HO_10 := Aside0.mk (Kd.R_elder' (ra (h := HO_10.out)) (Kd.R_base ho0) hb); replace HO264 := Aside0.mk (Kd.R_elder' (ra (h := HO264.out)) (Kd.R_base ho0) hb); replace HB := bs hb; (try clear hb); (try clear hb2); (try clear hk); (try clear hi); (try clear ho0)))
                      (try simp only [Act.put, List.setIfInBounds_toArray, List.set_cons_zero, List.set_cons_succ])
                      go_cut [94] (fun v94 wc => ∃ (kq : Nat) (x94_46 : Bool), v94 = .bool x94_46 ∧ Aside0 (laws_FnExactStackKinds.j2 kq t260 t259 x94_46 = some r) ∧ Aside0 (kq ≤ kj26) ∧ Aside0 (Kd.R (Kd.int .i64) 2 wc w.heap.size (fun _ => True) (.slice Ao48 t247.length co48) t260) ∧ Aside0 (Below w.heap.size w wc))
                      case first =>
                        have H := HC47.out
                        clear HC47
                        replace H := Option.bind_eq_some_iff.mp H
                        obtain ⟨t269, A530, H⟩ := H
                        replace H : (if t269 = true then (laws_FnExactStackKinds.j2 kj26 t260 t259 (t266 != t241)) else (laws_FnExactStackKinds.j2 kj26 t260 t259 true)) = some r := H
                        have A53 := Aside0.mk A530
                        clear A530
                        by_cases c54 : t269 = true
                        · subst c54
                          rw [if_pos rfl] at H
                          have H' := Aside0.mk H
                          clear H
                          obtain ⟨Ao55, co55, eo55⟩ := Kd.R_slice HO268.out
                          subst eo55
                          obtain ⟨Ao56, co56, eo56⟩ := Kd.R_slice HO_7.out
                          subst eo56
                          go_wp2_with (first | ((with_reducible refine gate_callee (f := 25) rfl ?_); refine gl (some 88) Try.func25 #[.slice Ao55 t265.length co55, .slice Ao56 t240.length co56] ?_; (with_reducible refine (laws_eqInt64S.calls kj26 _ _ t265 _ _ t240 true _ ?side1 ?side2 ?side3 ?side4 A53.out).mono ?_); (case side1 => exact se HO268); (case side2 => exact (Kd.R_reads' HO268.out).2.1); (case side3 => exact se HO_7); (case side4 => exact (Kd.R_reads' HO_7.out).2.1); rintro e w' ⟨rfl, ⟨nd, rfl⟩⟩; refine ⟨_, rfl, ?_⟩))
                          go_meet
                          case rel => exact ⟨_, ((t266 != t241)), (by first | rfl | (simp; done) | (simp [*]; done)), H', ⟨by have := HJ8.out; have := HJ26.out; first | omega | exact Nat.le_refl _⟩, ⟨by refine ra (h := ?_); exact Kd.R_mono HO_10.out (fun _ hk => trivial)⟩, ⟨bw⟩⟩
                        · replace c54 := Bool.eq_false_iff.mpr c54
                          subst c54
                          rw [if_neg nf] at H
                          have H' := Aside0.mk H
                          clear H
                          obtain ⟨Ao57, co57, eo57⟩ := Kd.R_slice HO268.out
                          subst eo57
                          obtain ⟨Ao58, co58, eo58⟩ := Kd.R_slice HO_7.out
                          subst eo58
                          go_wp2_with (first | ((with_reducible refine gate_callee (f := 25) rfl ?_); refine gl (some 88) Try.func25 #[.slice Ao57 t265.length co57, .slice Ao58 t240.length co58] ?_; (with_reducible refine (laws_eqInt64S.calls kj26 _ _ t265 _ _ t240 false _ ?side1 ?side2 ?side3 ?side4 A53.out).mono ?_); (case side1 => exact se HO268); (case side2 => exact (Kd.R_reads' HO268.out).2.1); (case side3 => exact se HO_7); (case side4 => exact (Kd.R_reads' HO_7.out).2.1); rintro e w' ⟨rfl, ⟨nd, rfl⟩⟩; refine ⟨_, rfl, ?_⟩))
                          go_meet
                          case rel => exact ⟨_, (true), (by first | rfl | (simp; done) | (simp [*]; done)), H', ⟨by have := HJ8.out; have := HJ26.out; first | omega | exact Nat.le_refl _⟩, ⟨by refine ra (h := ?_); exact Kd.R_mono HO_10.out (fun _ hk => trivial)⟩, ⟨bw⟩⟩
                      case rest =>
                        clear HC47
                        try clear c1
                        try clear c2
                        try clear p2
                        try clear c3
                        try clear c4
                        try clear c4b0
                        try clear c4b1
                        try clear c5
                        try clear c8
                        try clear c17
                        try clear c22
                        try clear c23
                        try clear c25
                        try clear c31
                        try clear c31b0
                        try clear c33
                        try clear c36
                        try clear c37
                        try clear c38
                        try clear c41
                        try clear c41b0
                        try clear c44
                        try clear c44b0
                        try clear c44b1
                        try clear c54
                        try clear p2
                        obtain ⟨kq, x94_46, rfl, HA, HJ46, HO_10, HB⟩ := hcut
                        have hl10_46 := (Kd.R_reads' HO_10.out).1
                        rw [hl10_46] at HO_10
                        (try simp only [hl10_46])
                        cases kq with
                        | zero => exact absurd HA.out (by simp [laws_FnExactStackKinds.j2])
                        | succ kj46 =>
                          have H := HA.out
                          clear HA
                          simp only [laws_FnExactStackKinds.j2] at H
                          by_cases c59 : x94_46 = true
                          · subst c59
                            rw [if_pos rfl] at H
                            obtain rfl := Option.some.inj H
                            go_wp2
                            go_ret
                            exact ⟨er, bw⟩
                          · replace c59 := Bool.eq_false_iff.mpr c59
                            subst c59
                            rw [if_neg nf] at H
                            replace H := Option.bind_eq_some_iff.mp H
                            obtain ⟨t270, A600, H⟩ := H
                            replace H : (if t270 < 0 then (some false) else (if t270 = t259 then (some true) else (some false))) = some r := H
                            have A60 := Aside0.mk A600
                            clear A600
                            by_cases c61 : t270 < 0
                            · rw [if_pos c61] at H
                              have c61b0 : decide (t270 < 0) = true := decide_eq_true c61
                              clear c61
                              obtain rfl := Option.some.inj H
                              go_wp2_with (first | ((with_reducible refine gate_callee (f := 38) rfl ?_); refine gl (some 97) Try.func38 #[.slice Ao48 t260.length co48, .int .i64 1] ?_; (with_reducible refine (laws_heldInt64S.calls kj46 _ _ t260 1 t270 _ ?side1 ?side2 A60.out).mono ?_); (case side1 => exact se HO_10); (case side2 => exact (Kd.R_reads' HO_10.out).2.1); rintro e w' ⟨rfl, ⟨nd, rfl⟩⟩; refine ⟨_, rfl, ?_⟩))
                              go_ret
                              exact ⟨er, bw⟩
                            · rw [if_neg c61] at H
                              have c61b0 : decide (t270 < 0) = false := decide_eq_false c61
                              clear c61
                              by_cases c62 : t270 = t259
                              · rw [if_pos c62] at H
                                have c62b0 : (t270 == t259) = true := beq_iff_eq.mpr c62
                                have c62b1 : (t270 != t259) = false := bne_eq_false_iff_eq.mpr c62
                                clear c62
                                obtain rfl := Option.some.inj H
                                go_wp2_with (first | ((with_reducible refine gate_callee (f := 38) rfl ?_); refine gl (some 97) Try.func38 #[.slice Ao48 t260.length co48, .int .i64 1] ?_; (with_reducible refine (laws_heldInt64S.calls kj46 _ _ t260 1 t270 _ ?side1 ?side2 A60.out).mono ?_); (case side1 => exact se HO_10); (case side2 => exact (Kd.R_reads' HO_10.out).2.1); rintro e w' ⟨rfl, ⟨nd, rfl⟩⟩; refine ⟨_, rfl, ?_⟩))
                                go_ret
                                exact ⟨er, bw⟩
                              · rw [if_neg c62] at H
                                have c62b0 : (t270 == t259) = false := beq_eq_false_iff_ne.mpr c62
                                have c62b1 : (t270 != t259) = true := bne_iff_ne.mpr c62
                                obtain rfl := Option.some.inj H
                                go_wp2_with (first | ((with_reducible refine gate_callee (f := 38) rfl ?_); refine gl (some 97) Try.func38 #[.slice Ao48 t260.length co48, .int .i64 1] ?_; (with_reducible refine (laws_heldInt64S.calls kj46 _ _ t260 1 t270 _ ?side1 ?side2 A60.out).mono ?_); (case side1 => exact se HO_10); (case side2 => exact (Kd.R_reads' HO_10.out).2.1); rintro e w' ⟨rfl, ⟨nd, rfl⟩⟩; refine ⟨_, rfl, ?_⟩))
                                go_ret
                                exact ⟨er, bw⟩
                    · rw [if_neg c44] at H
                      have c44b0 : (t261 == t259) = false := beq_eq_false_iff_ne.mpr c44
                      have c44b1 : (t261 != t259) = true := bne_iff_ne.mpr c44
                      obtain rfl := Option.some.inj H
                      obtain ⟨Ao63, co63, eo63⟩ := Kd.R_slice HO_10.out
                      subst eo63
                      go_wp2_with (first | ((with_reducible refine gate_callee (f := 33) rfl ?_); refine gl (some 69) Try.func33 #[.slice Ao63 t247.length co63, .int .i64 1] ?_; (with_reducible refine (laws_markInt64S.calls kj26 (fun k_ => some k_ = (.slice Ao63 t247.length co63 : Value).ownBlock) (.slice Ao63 t247.length co63) t247 1 t259 t260 w _ ?side1 ?side2 A39.out).mono ?_); (case side1 => repeat (first | (with_reducible first | exact HB.out | apply below_alloc | apply pw_below_drewN | apply below_drew1) | exact HB.out)); (case side2 => exact Kd.R_tight rfl HO_10.out); rintro e w64 ⟨rfl, hy0, hb, hkp⟩; refine ⟨_, rfl, ?_⟩; replace HO_7 := Aside0.mk (Kd.R_mono (ok' := fun k_ => some k_ ≠ (.slice Ao63 t247.length co63 : Value).ownBlock) (Kd.R_keptB (HO_7.out) hkp (fun k_ hk_ hs_ => (hk_) hs_)) (fun k_ hk_ => hk_.1)); replace HO_10 := Aside0.mk (Kd.R_reok rfl hy0 (fun k_ e_ => HO_10.out.1 k_ e_)); replace HB := Aside0.mk (hb); (try clear hb); (try clear hkp); (try clear hy0)) | ((with_reducible refine gate_callee (f := 38) rfl ?_); refine goesL_ (some 72) rfl rfl Try.func38 (by kernel_rfl) rfl #[.slice Ao63 t260.length co63, .int .i64 1] rfl (by (try simp only [List.map_toArray, List.map_cons, List.map_nil]); first | done | (rw [show t260.length = t247.length from (Kd.R_reads' HO_10.out).1.symm] <;> rfl) | rfl | (simp only [List.length_drop, List.length_take]; rfl)) ?_; (with_reducible refine (laws_heldInt64S.calls kj26 _ _ t260 1 t261 _ ?side1 ?side2 A40.out).mono ?_); (case side1 => exact se HO_10); (case side2 => rw [show t260.length = t247.length from (Kd.R_reads' HO_10.out).1.symm]; exact (Kd.R_reads' HO_10.out).2.1); rintro e w' ⟨rfl, ⟨nd, rfl⟩⟩; refine ⟨_, rfl, ?_⟩))
                      go_ret
                      exact ⟨er, bw⟩
          · replace c25 := Bool.eq_false_iff.mpr c25
            subst c25
            rw [if_neg nf] at H
            obtain rfl := Option.some.inj H
            go_wp2_with (first | ((with_reducible refine gate_callee (f := 23) rfl ?_); refine gl (some 48) Try.func23 #[.slice A2 l2.length c2] ?_; (with_reducible refine (laws_toInt64S.calls kj8 _ _ l2 t252 _ ?side1 ?side2 A23.out).mono ?_); (case side1 => exact sd HR2); (case side2 => exact HC2.out); rintro e w65 ⟨v253, rfl, ho0, hb⟩; refine ⟨_, rfl, ?_⟩; have HO254 := Aside0.mk (Kd.R_lower (Kd.R_new' (Kd.R_new' (Kd.R_new' ho0 (Kd.R_lt (ra (h := HO_7.out)))) (Kd.R_lt (ra (h := HO_9.out)))) (Kd.R_lt (ra (h := HO_10.out)))) (below_size bw)); replace HO_7 := Aside0.mk (Kd.R_elder' (ra (h := HO_7.out)) (Kd.R_base ho0) hb); replace HO_9 := Aside0.mk (Kd.R_elder' (ra (h := HO_9.out)) (Kd.R_base ho0) hb); replace HO_10 := Aside0.mk (Kd.R_elder' (ra (h := HO_10.out)) (Kd.R_base ho0) hb); replace HB := bs hb; (try clear hb); (try clear hb2); (try clear hk); (try clear hi); (try clear ho0); obtain ⟨Ao66, co66, eo66⟩ := Kd.R_slice HO254.out; subst eo66) | ((with_reducible refine gate_callee (f := 25) rfl ?_); refine gl (some 49) Try.func25 #[.slice Ao14 t244.length co14, .slice Ao66 t252.length co66] ?_; (with_reducible refine (laws_eqInt64S.calls kj8 _ _ t244 _ _ t252 false _ ?side1 ?side2 ?side3 ?side4 A24.out).mono ?_); (case side1 => exact se HO_9); (case side2 => exact (Kd.R_reads' HO_9.out).2.1); (case side3 => exact se HO254); (case side4 => exact (Kd.R_reads' HO254.out).2.1); rintro e w' ⟨rfl, ⟨nd, rfl⟩⟩; refine ⟨_, rfl, ?_⟩))
            go_ret
            exact ⟨er, bw⟩

/-- THE ONE PURE STATEMENT of laws_FnExactStackKinds: yours. -/
def laws_FnExactStackKinds.Pure : Prop := ∀ (a0 : Int) (a1 : Int) (l2 : List Int), (Lit.int .i64 a0).wf = true → (Lit.int .i64 a1).wf = true → l2.length ≤ maxLen → l2.length * 8 ≤ 140737488351232 → (∀ x ∈ l2, (Lit.int .i64 x).wf = true) → ∃ k, laws_FnExactStackKinds.f k a0 a1 l2 = some true
theorem laws_FnExactStackKinds.walk (P : laws_FnExactStackKinds.Pure) (a0 : Int) (a1 : Int) (a2 : Option Addr) (len2 cap2 : Nat) (z2 : List Int) (w : World) (w0 : (Lit.int .i64 a0).wf = true) (w1 : (Lit.int .i64 a1).wf = true) (w2 : (a2 = none ∧ len2 = 0 ∧ cap2 = 0 ∧ z2 = []) ∨ ∃ x, a2 = some x ∧ len2 ≤ cap2 ∧ cap2 ≤ maxLen ∧ z2.length = cap2 ∧ (∀ i, i < z2.length → w.cell? (x.add i) = some (.int .i64 (z2.getD i 0))) ∧ ∀ n ∈ z2, (Lit.int .i64 n).wf = true) (y2 : len2 * 8 ≤ 140737488351232) :
    Calls Try.prog 8 #[.int .i64 a0, .int .i64 a1, .slice a2 len2 cap2] w fun e w' => e = .returned (.bool true) ∧ Below w.heap.size w w' := by
  obtain ⟨l2, rfl, hr2, hm2, hw2, hc2⟩ := ReadsInt.ofRowC w2
  obtain ⟨k, h⟩ := P a0 a1 l2 w0 w1 hm2 y2 hw2
  refine (laws_FnExactStackKinds.calls k a0 a1 _ _ l2 true w (Kd.C_of_reads (d := (0 : Int)) (h1 := fun _ => rfl) hr2) hc2 h).mono ?_
  rintro e w' ⟨rfl, hd⟩
  exact ⟨rfl, hd⟩

end Go.Proofs.Yteadienaeapaeaa.PK
