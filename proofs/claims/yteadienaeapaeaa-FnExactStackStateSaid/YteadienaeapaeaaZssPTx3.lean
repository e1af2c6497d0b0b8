-- Made by a program of this session (myprint.py) out of the translation.
import Derived.Test.YteadienaeapaeaaZssPTx0
import Derived.Test.YteadienaeapaeaaZssPTx1
import Derived.Test.YteadienaeapaeaaZssPTx2
import Derived.Test.YteadienaeapaeaaZssShort
namespace Go.Proofs.Yteadienaeapaeaa.PT
open Go.Proofs.Yteadienaeapaeaa.Short
open Go.Proofs.Yteadienaeapaeaa.Dyn
open Go.RowKit Go.Proofs.YteadienaeapaeaaW.PrintWords Go.Proofs.YteadienaeapaeaaW.PrintLast Go.Proofs.YteadienaeapaeaaW.PrintMore
attribute [local go_sem] max2_int min2_int max_two min_two max_three min_three max_four min_four   -- for this text's walks alone
set_option linter.unusedVariables false
set_option linter.unusedSimpArgs false

/-! ### spec_StackState: function 39 -/
mutual
def spec_StackState.l0 : Nat → Int → Int → List Int → List Int → Int → List (S130) → List (S121) → Option ((List (S130)) × (List (S121)) × List Int × Int)
  | 0, _, _, _, _, _, _, _ => none
  | k + 1, x0, x1, x8, x11, x12, x184000, x184001 => if x12 < x1 then (spec_StackState.l1 k x0 x1 x8 x11 x12 0 x184000 x184001) else (spec_StackState.l2 k x11 0 x184000 x184001 ([] : List Int))
def spec_StackState.l1 : Nat → Int → Int → List Int → List Int → Int → Int → List (S130) → List (S121) → Option ((List (S130)) × (List (S121)) × List Int × Int)
  | 0, _, _, _, _, _, _, _, _ => none
  | k + 1, x0, x1, x8, x11, x12, x13, x184000, x184001 => if x13 < x0 then ((spec_l26Box.f x12 x13 1 1).bind fun t187 => ((spec_l26Motion.f k x13 x12).bind fun bt190 => (if x184001.length < 1599289640401 then (if 0 ≤ (wrap64 ((wrap64 (x13 * x1)) + x12)) then (if (wrap64 ((wrap64 (x13 * x1)) + x12)) < (x8.length : Int) then (if x11.length < 17592186044416 then (spec_StackState.l1 k x0 x1 x8 (x11 ++ [rd x8 (wrap64 ((wrap64 (x13 * x1)) + x12))]) x12 (wrap64 (x13 + 1)) x184000 (x184001 ++ [(⟨t187, (⟨bt190.1, bt190.2.1, (⟨bt190.2.2.1, bt190.2.2.2.1, bt190.2.2.2.2.1⟩ : S94), (⟨bt190.2.2.2.2.2.1, bt190.2.2.2.2.2.2.1, bt190.2.2.2.2.2.2.2⟩ : S94)⟩ : S118)⟩ : S121)])) else (none)) else (none)) else (none)) else (none)))) else (spec_StackState.l0 k x0 x1 x8 x11 (wrap64 (x12 + 1)) x184000 x184001)
def spec_StackState.l2 : Nat → List Int → Int → List (S130) → List (S121) → List Int → Option ((List (S130)) × (List (S121)) × List Int × Int)
  | 0, _, _, _, _, _ => none
  | k + 1, x11, x14, x184000, x184001, x184002 => if x14 < (x11.length : Int) then (spec_StackState.l3 k x11 x14 0 x184000 x184001 x184002) else (some (x184000, x184001, x184002, 0))
def spec_StackState.l3 : Nat → List Int → Int → Int → List (S130) → List (S121) → List Int → Option ((List (S130)) × (List (S121)) × List Int × Int)
  | 0, _, _, _, _, _, _ => none
  | k + 1, x11, x14, x15, x184000, x184001, x184002 => if x15 < (x11.length : Int) then (if 0 ≤ x14 then (if x14 < (x11.length : Int) then (if 0 ≤ x15 then (if (rd x11 x14) > (rd x11 x15) then (spec_StackState.j4 k x11 x14 x15 1 x184000 x184001 x184002) else (spec_StackState.j4 k x11 x14 x15 0 x184000 x184001 x184002)) else (none)) else (none)) else (none)) else (spec_StackState.l2 k x11 (wrap64 (x14 + 1)) x184000 x184001 x184002)
def spec_StackState.j4 : Nat → List Int → Int → Int → Int → List (S130) → List (S121) → List Int → Option ((List (S130)) × (List (S121)) × List Int × Int)
  | 0, _, _, _, _, _, _, _ => none
  | k + 1, x11, x14, x15, x16, x184000, x184001, x184002 => if 0 ≤ x14 then (if x14 < (x11.length : Int) then (if 0 ≤ x15 then (if x15 < (x11.length : Int) then (if (rd x11 x14) < (rd x11 x15) then (if x184002.length < 17592186044416 then (spec_StackState.l3 k x11 x14 (wrap64 (x15 + 1)) x184000 x184001 (x184002 ++ [(-1)])) else (none)) else (if x184002.length < 17592186044416 then (spec_StackState.l3 k x11 x14 (wrap64 (x15 + 1)) x184000 x184001 (x184002 ++ [x16])) else (none))) else (none)) else (none)) else (none)) else (none)
end
def spec_StackState.f (k : Nat) (a0 : Int) (a1 : Int) (l2 : List Int) : Option ((List (S130)) × (List (S121)) × List Int × Int) := (spec_l26Ok.f a0 a1).bind fun t175 => (if t175 = true then ((spec_l26Levels.f k (wrap64 (a0 * a1)) l2).bind fun bt176 => (if bt176.2 = true then ((spec_l26Box.f 0 0 a1 a0).bind fun t180 => (spec_StackState.l0 k a0 a1 bt176.1 (([] : List Int)) 0 t180 ([] : List (S121)))) else (some (([] : List (S130)), ([] : List (S121)), ([] : List Int), 12)))) else (some (([] : List (S130)), ([] : List (S121)), ([] : List Int), 1)))
theorem spec_StackState.mono_l : ∀ k, (∀ y0 y1 y2 y3 y4 y5 y6, LeO (spec_StackState.l0 k y0 y1 y2 y3 y4 y5 y6) (spec_StackState.l0 (k + 1) y0 y1 y2 y3 y4 y5 y6)) ∧ (∀ y0 y1 y2 y3 y4 y5 y6 y7, LeO (spec_StackState.l1 k y0 y1 y2 y3 y4 y5 y6 y7) (spec_StackState.l1 (k + 1) y0 y1 y2 y3 y4 y5 y6 y7)) ∧ (∀ y0 y1 y2 y3 y4, LeO (spec_StackState.l2 k y0 y1 y2 y3 y4) (spec_StackState.l2 (k + 1) y0 y1 y2 y3 y4)) ∧ (∀ y0 y1 y2 y3 y4 y5, LeO (spec_StackState.l3 k y0 y1 y2 y3 y4 y5) (spec_StackState.l3 (k + 1) y0 y1 y2 y3 y4 y5)) ∧ (∀ y0 y1 y2 y3 y4 y5 y6, LeO (spec_StackState.j4 k y0 y1 y2 y3 y4 y5 y6) (spec_StackState.j4 (k + 1) y0 y1 y2 y3 y4 y5 y6))
  | 0 => ⟨fun _ _ _ _ _ _ _ r h => by simp [spec_StackState.l0] at h, fun _ _ _ _ _ _ _ _ r h => by simp [spec_StackState.l1] at h, fun _ _ _ _ _ r h => by simp [spec_StackState.l2] at h, fun _ _ _ _ _ _ r h => by simp [spec_StackState.l3] at h, fun _ _ _ _ _ _ _ r h => by simp [spec_StackState.j4] at h⟩
  | k + 1 => by
    obtain ⟨ih0, ih1, ih2, ih3, ih4⟩ := spec_StackState.mono_l k
    refine ⟨?_, ?_, ?_, ?_, ?_⟩
    · intro y0 y1 y2 y3 y4 y5 y6
      unfold spec_StackState.l0
      repeat' first
      | (with_reducible exact ih0 _ _ _ _ _ _ _)
      | (with_reducible exact ih1 _ _ _ _ _ _ _ _)
      | (with_reducible exact ih2 _ _ _ _ _)
      | (with_reducible exact ih3 _ _ _ _ _ _)
      | (with_reducible exact ih4 _ _ _ _ _ _ _)
      | (with_reducible exact spec_l26Levels.mono _ _ _)
      | (with_reducible exact spec_l26Motion.mono _ _ _)
      | (with_reducible exact LeO.refl _)
      | (with_reducible exact LeO.none _)
      | (with_reducible refine LeO.ite ?_ ?_)
      | (with_reducible refine LeO.bind ?_ (fun _ => ?_))
      | exact ih0 _ _ _ _ _ _ _
      | exact ih1 _ _ _ _ _ _ _ _
      | exact ih2 _ _ _ _ _
      | exact ih3 _ _ _ _ _ _
      | exact ih4 _ _ _ _ _ _ _
      | exact spec_l26Levels.mono _ _ _
      | exact spec_l26Motion.mono _ _ _
      | exact LeO.none _
      | refine LeO.ite ?_ ?_
      | refine LeO.bind ?_ (fun _ => ?_)
    · intro y0 y1 y2 y3 y4 y5 y6 y7
      unfold spec_StackState.l1
      repeat' first
      | (with_reducible exact ih0 _ _ _ _ _ _ _)
      | (with_reducible exact ih1 _ _ _ _ _ _ _ _)
      | (with_reducible exact ih2 _ _ _ _ _)
      | (with_reducible exact ih3 _ _ _ _ _ _)
      | (with_reducible exact ih4 _ _ _ _ _ _ _)
      | (with_reducible exact spec_l26Levels.mono _ _ _)
      | (with_reducible exact spec_l26Motion.mono _ _ _)
      | (with_reducible exact LeO.refl _)
      | (with_reducible exact LeO.none _)
      | (with_reducible refine LeO.ite ?_ ?_)
      | (with_reducible refine LeO.bind ?_ (fun _ => ?_))
      | exact ih0 _ _ _ _ _ _ _
      | exact ih1 _ _ _ _ _ _ _ _
      | exact ih2 _ _ _ _ _
      | exact ih3 _ _ _ _ _ _
      | exact ih4 _ _ _ _ _ _ _
      | exact spec_l26Levels.mono _ _ _
      | exact spec_l26Motion.mono _ _ _
      | exact LeO.none _
      | refine LeO.ite ?_ ?_
      | refine LeO.bind ?_ (fun _ => ?_)
    · intro y0 y1 y2 y3 y4
      unfold spec_StackState.l2
      repeat' first
      | (with_reducible exact ih0 _ _ _ _ _ _ _)
      | (with_reducible exact ih1 _ _ _ _ _ _ _ _)
      | (with_reducible exact ih2 _ _ _ _ _)
      | (with_reducible exact ih3 _ _ _ _ _ _)
      | (with_reducible exact ih4 _ _ _ _ _ _ _)
      | (with_reducible exact spec_l26Levels.mono _ _ _)
      | (with_reducible exact spec_l26Motion.mono _ _ _)
      | (with_reducible exact LeO.refl _)
      | (with_reducible exact LeO.none _)
      | (with_reducible refine LeO.ite ?_ ?_)
      | (with_reducible refine LeO.bind ?_ (fun _ => ?_))
      | exact ih0 _ _ _ _ _ _ _
      | exact ih1 _ _ _ _ _ _ _ _
      | exact ih2 _ _ _ _ _
      | exact ih3 _ _ _ _ _ _
      | exact ih4 _ _ _ _ _ _ _
      | exact spec_l26Levels.mono _ _ _
      | exact spec_l26Motion.mono _ _ _
      | exact LeO.none _
      | refine LeO.ite ?_ ?_
      | refine LeO.bind ?_ (fun _ => ?_)
    · intro y0 y1 y2 y3 y4 y5
      unfold spec_StackState.l3
      repeat' first
      | (with_reducible exact ih0 _ _ _ _ _ _ _)
      | (with_reducible exact ih1 _ _ _ _ _ _ _ _)
      | (with_reducible exact ih2 _ _ _ _ _)
      | (with_reducible exact ih3 _ _ _ _ _ _)
      | (with_reducible exact ih4 _ _ _ _ _ _ _)
      | (with_reducible exact spec_l26Levels.mono _ _ _)
      | (with_reducible exact spec_l26Motion.mono _ _ _)
      | (with_reducible exact LeO.refl _)
      | (with_reducible exact LeO.none _)
      | (with_reducible refine LeO.ite ?_ ?_)
      | (with_reducible refine LeO.bind ?_ (fun _ => ?_))
      | exact ih0 _ _ _ _ _ _ _
      | exact ih1 _ _ _ _ _ _ _ _
      | exact ih2 _ _ _ _ _
      | exact ih3 _ _ _ _ _ _
      | exact ih4 _ _ _ _ _ _ _
      | exact spec_l26Levels.mono _ _ _
      | exact spec_l26Motion.mono _ _ _
      | exact LeO.none _
      | refine LeO.ite ?_ ?_
      | refine LeO.bind ?_ (fun _ => ?_)
    · intro y0 y1 y2 y3 y4 y5 y6
      unfold spec_StackState.j4
      repeat' first
      | (with_reducible exact ih0 _ _ _ _ _ _ _)
      | (with_reducible exact ih1 _ _ _ _ _ _ _ _)
      | (with_reducible exact ih2 _ _ _ _ _)
      | (with_reducible exact ih3 _ _ _ _ _ _)
      | (with_reducible exact ih4 _ _ _ _ _ _ _)
      | (with_reducible exact spec_l26Levels.mono _ _ _)
      | (with_reducible exact spec_l26Motion.mono _ _ _)
      | (with_reducible exact LeO.refl _)
      | (with_reducible exact LeO.none _)
      | (with_reducible refine LeO.ite ?_ ?_)
      | (with_reducible refine LeO.bind ?_ (fun _ => ?_))
      | exact ih0 _ _ _ _ _ _ _
      | exact ih1 _ _ _ _ _ _ _ _
      | exact ih2 _ _ _ _ _
      | exact ih3 _ _ _ _ _ _
      | exact ih4 _ _ _ _ _ _ _
      | exact spec_l26Levels.mono _ _ _
      | exact spec_l26Motion.mono _ _ _
      | exact LeO.none _
      | refine LeO.ite ?_ ?_
      | refine LeO.bind ?_ (fun _ => ?_)
theorem spec_StackState.mono : ∀ a0 a1 a2 k, LeO (spec_StackState.f k a0 a1 a2) (spec_StackState.f (k + 1) a0 a1 a2) := by
  intro a0 a1 a2 k
  obtain ⟨ih0, ih1, ih2, ih3, ih4⟩ := spec_StackState.mono_l k
  unfold spec_StackState.f
  repeat' first
      | (with_reducible exact ih0 _ _ _ _ _ _ _)
      | (with_reducible exact ih1 _ _ _ _ _ _ _ _)
      | (with_reducible exact ih2 _ _ _ _ _)
      | (with_reducible exact ih3 _ _ _ _ _ _)
      | (with_reducible exact ih4 _ _ _ _ _ _ _)
      | (with_reducible exact spec_l26Levels.mono _ _ _)
      | (with_reducible exact spec_l26Motion.mono _ _ _)
      | (with_reducible exact LeO.refl _)
      | (with_reducible exact LeO.none _)
      | (with_reducible refine LeO.ite ?_ ?_)
      | (with_reducible refine LeO.bind ?_ (fun _ => ?_))
      | exact ih0 _ _ _ _ _ _ _
      | exact ih1 _ _ _ _ _ _ _ _
      | exact ih2 _ _ _ _ _
      | exact ih3 _ _ _ _ _ _
      | exact ih4 _ _ _ _ _ _ _
      | exact spec_l26Levels.mono _ _ _
      | exact spec_l26Motion.mono _ _ _
      | exact LeO.none _
      | refine LeO.ite ?_ ?_
      | refine LeO.bind ?_ (fun _ => ?_)
def spec_StackState.T14 : Bool × List (List Nat × List Nat) := (true, [([], []), ([0], [0]), ([], []), ([], []), ([2, 3], [2, 3]), ([], []), ([], []), ([5, 6, 4], [5, 6]), ([4, 7], [4, 7]), ([8], [8]), ([1, 9, 7], [1, 9]), ([0, 1, 2, 3, 4, 5, 6, 7, 8, 9, 10], []), ([11, 10, 10, 0, 1, 2, 3, 4, 5, 6, 7, 8, 9, 10], [10, 11])])
def spec_StackState.B14 : List Nat := [0, 1, 0, 0, 12, 0, 0, 124, 252, 508, 1023, 2047, 4095]
theorem spec_StackState.tab14 : rtab .any (opsOf Try.f39 14) = spec_StackState.T14 := by kernel_rfl
theorem spec_StackState.bits14 : waitsOk spec_StackState.T14.2 spec_StackState.B14 = true := by kernel_rfl
def spec_StackState.T23 : Bool × List (List Nat × List Nat) := (true, [([], []), ([], []), ([0, 1], [0, 1]), ([2], [2]), ([], []), ([], []), ([4, 5], [4, 5]), ([6], [6]), ([3, 7], [3, 7])])
def spec_StackState.B23 : List Nat := [0, 0, 3, 7, 0, 0, 48, 112, 255]
theorem spec_StackState.tab23 : rtab .any (opsOf Try.f39 23) = spec_StackState.T23 := by kernel_rfl
theorem spec_StackState.bits23 : waitsOk spec_StackState.T23.2 spec_StackState.B23 = true := by kernel_rfl
def spec_StackState.T25 : Bool × List (List Nat × List Nat) := (true, [([], []), ([], []), ([0, 1], [0, 1]), ([2], [2]), ([], []), ([], []), ([4, 5], [4, 5]), ([6], [6]), ([3, 7], [3, 7])])
def spec_StackState.B25 : List Nat := [0, 0, 3, 7, 0, 0, 48, 112, 255]
theorem spec_StackState.tab25 : rtab .any (opsOf Try.f39 25) = spec_StackState.T25 := by kernel_rfl
theorem spec_StackState.bits25 : waitsOk spec_StackState.T25.2 spec_StackState.B25 = true := by kernel_rfl
set_option maxHeartbeats 8000000 in
set_option maxRecDepth 100000 in
theorem spec_StackState.calls (k : Nat) (a0 : Int) (a1 : Int) (A2 : Option Addr) (c2 : Nat) (l2 : List Int) (r1 : List (S130)) (r2 : List (S121)) (r3 : List Int) (r4 : Int) (w : World) (hr2 : Kd.C (Kd.int .i64) w A2 l2.length l2) (hc2 : l2.length ≤ c2) (h : spec_StackState.f k a0 a1 l2 = some (r1, r2, r3, r4)) :
    Calls Try.prog 39 #[.int .i64 a0, .int .i64 a1, .slice A2 l2.length c2] w fun e w' => ∃ v0_ v1_ v2_ : Value, e = .returned (.tuple #[.agg #[v0_, v1_, v2_], .int .i64 r4]) ∧ Kd.R k130 130 w' w.heap.size (fun _ => True) v0_ r1 ∧ Kd.S k121 121 w' w.heap.size (fun k_ => some k_ ≠ (v0_ : Value).ownBlock) v1_ r2 ∧ Kd.R (Kd.int .i64) 2 w' w.heap.size (fun _ => True) v2_ r3 ∧ Below w.heap.size w w' := by
  have hu65 := Try.underlying65
  have hu121 := Try.underlying121
  have HR2 := Aside0.mk hr2
  have HC2 := Aside0.mk hc2
  clear hr2 hc2
  have HB := Aside0.mk (Below.refl w.heap.size w)
  have H : ((spec_l26Ok.f a0 a1).bind fun t175 => (if t175 = true then ((spec_l26Levels.f k (wrap64 (a0 * a1)) l2).bind fun bt176 => (if bt176.2 = true then ((spec_l26Box.f 0 0 a1 a0).bind fun t180 => (spec_StackState.l0 k a0 a1 bt176.1 (([] : List Int)) 0 t180 ([] : List (S121)))) else (some (([] : List (S130)), ([] : List (S121)), ([] : List Int), 12)))) else (some (([] : List (S130)), ([] : List (S121)), ([] : List Int), 1)))) = some (r1, r2, r3, r4) := h
  clear h
  replace H := Option.bind_eq_some_iff.mp H
  obtain ⟨t175, A40, H⟩ := H
  replace H : (if t175 = true then ((spec_l26Levels.f k (wrap64 (a0 * a1)) l2).bind fun bt176 => (if bt176.2 = true then ((spec_l26Box.f 0 0 a1 a0).bind fun t180 => (spec_StackState.l0 k a0 a1 bt176.1 (([] : List Int)) 0 t180 ([] : List (S121)))) else (some (([] : List (S130)), ([] : List (S121)), ([] : List Int), 12)))) else (some (([] : List (S130)), ([] : List (S121)), ([] : List Int), 1))) = some (r1, r2, r3, r4) := H
  have A4 := Aside0.mk A40
  clear A40
  by_cases c5 : t175 = true
  · subst c5
    rw [if_pos rfl] at H
    replace H := Option.bind_eq_some_iff.mp H
    obtain ⟨⟨t176, t177⟩, A60, H⟩ := H
    replace H : (if t177 = true then ((spec_l26Box.f 0 0 a1 a0).bind fun t180 => (spec_StackState.l0 k a0 a1 t176 (([] : List Int)) 0 t180 ([] : List (S121)))) else (some (([] : List (S130)), ([] : List (S121)), ([] : List Int), 12))) = some (r1, r2, r3, r4) := H
    have A6 := Aside0.mk A60
    clear A60
    by_cases c7 : t177 = true
    · subst c7
      rw [if_pos rfl] at H
      replace H := Option.bind_eq_some_iff.mp H
      obtain ⟨t180, A80, H⟩ := H
      replace H : (spec_StackState.l0 k a0 a1 t176 (([] : List Int)) 0 t180 ([] : List (S121))) = some (r1, r2, r3, r4) := H
      have A8 := Aside0.mk A80
      clear A80
      obtain ⟨y184, hy184⟩ : ∃ y_ : List Int, y_ = (([] : List Int)) := ⟨_, rfl⟩
      replace H : (spec_StackState.l0 k a0 a1 t176 y184 0 t180 ([] : List (S121))) = some (r1, r2, r3, r4) := by first | (rw [hy184]; with_reducible exact H) | (have H2_ := (Option.bind_some _ _).symm.trans H; rw [hy184]; with_reducible exact H2_) | (have H2_ := (Option.bind_some _ _).symm.trans H; with_reducible exact H2_) | with_reducible exact H | (rw [hy184]; exact H) | exact H
      have Ny184 := Aside0.mk hy184
      clear hy184
      have H' := Aside0.mk H
      clear H
      go_enter Try.func39, Try.ntmps39
      go_wp2_with (first | ((with_reducible refine gate_dst (N := 6) rfl ?_); refine bx #[.slice none 0 0, .slice none 0 0, .slice none 0 0] 65 ?_; intro gb174 hg w9 hbox hb; have BK174 := Aside0.mk hbox; have GW174 := bg hg; have GE174 := bg hg; replace HB := bs hb; clear hb hbox hg) | ((with_reducible refine gate_callee (f := 73) rfl ?_); refine gl (some 19) Try.func73 #[.int .i64 a0, .int .i64 a1] ?_; (with_reducible refine (spec_l26Ok.calls a0 a1 true _ A4.out).mono ?_); rintro e w' ⟨rfl, ⟨nd, rfl⟩⟩; refine ⟨_, rfl, ?_⟩; (try (rw [drewN_self w9]; generalize hq_ : World.drewN w9 _ = w9; have n0_ : Aside0 (w9.heap[gb174]? = some (.cells #[.slice none 0 0, .slice none 0 0, .slice none 0 0] 65 (0, 0))) := ⟨by rw [← hq_]; exact (by refine bk (h := ?_); exact BK174.out)⟩; have n1_ : Aside0 (Below w.heap.size w w9) := ⟨by rw [← hq_]; exact bw⟩; clear BK174 HB hq_; have BK174 := n0_; have HB := n1_; clear n0_ n1_))) | ((with_reducible refine gate_callee (f := 84) rfl ?_); refine gl (some 27) Try.func84 #[.int .i64 (wrap64 (a0 * a1)), .slice A2 l2.length c2] ?_; (with_reducible refine (spec_l26Levels.calls k (wrap64 (a0 * a1)) _ _ l2 t176 true _ ?side1 ?side2 A6.out).mono ?_); (case side1 => exact sd HR2); (case side2 => exact HC2.out); rintro e w10 ⟨v178, rfl, ho0, hb⟩; refine ⟨_, rfl, ?_⟩; have HO179 := Aside0.mk (Kd.R_lower ho0 (below_size bw)); replace BK174 := bb BK174 hb; replace HB := bs hb; (try clear hb); (try clear hb2); (try clear hk); (try clear hi); (try clear ho0)) | ((with_reducible refine gate_callee (f := 92) rfl ?_); refine gl (some 35) Try.func92 #[.int .i64 0, .int .i64 0, .int .i64 a1, .int .i64 a0] ?_; (with_reducible refine (spec_l26Box.calls 0 0 a1 a0 t180 _ A8.out).mono ?_); rintro e w11 ⟨v181, rfl, ho0, hb⟩; refine ⟨_, rfl, ?_⟩; have HO182 := Aside0.mk (Kd.R_lower ho0 (below_size bw)); replace HO179 := Aside0.mk (Kd.R_below (ra (h := HO179.out)) hb); replace BK174 := bb BK174 hb; replace HB := bs hb; (try clear hb); (try clear hb2); (try clear hk); (try clear hi); (try clear ho0); obtain ⟨Ao12, co12, eo12⟩ := Kd.R_slice HO182.out; subst eo12) | ((with_reducible refine gate_dst (N := 10) rfl ?_); refine bx #[.slice none 0 0, .slice none 0 0, .slice none 0 0] 65 ?_; intro gb183 hg w13 hbox hb; have BK183 := Aside0.mk hbox; have GW183 := bg hg; have GE183 := bg hg; have NB174_183 := bl BK174 hg; have NB183_174 := bv BK174 hg; replace HO179 := Aside0.mk (Kd.R_below (ra (h := HO179.out)) hb); replace HO182 := Aside0.mk (Kd.R_below (ra (h := HO182.out)) hb); replace BK174 := bb BK174 hb; replace HB := bs hb; clear hb hbox hg; have hnb14 := NB183_174.out; have hnc14 := NB174_183.out; obtain ⟨z15_0, z15_1, z15_2, y15_0, y15_1, y15_2⟩ := bq3 BK183) | ((with_reducible refine gate_dst (N := 37) rfl ?_); refine Kd.R_lit (Kd.int .i64) _ 2 ?hg (N := 37) ?hd (xs := ([] : List Int)) (inner := []) (ok := fun _ => True) (okp := fun _ => True) ?hr ?hp (fun _ hk => hk) trivial (Below.refl _ _) (Nat.le_refl _) (by simp) ?_; (case hd => rfl); (case hg => rfl); (case hr => first | (go_simp; done) | (go_simp; rfl)); (case hp => exact (Reps.none _ _)); intro v185 w16 ho17 hb hg_ hnew_; clear hg_ hnew_; (first | rw [← Ny184.out] at ho17 | (simp only [Int.reduceToNat] at ho17; rw [← Ny184.out] at ho17)); have HO186 := Aside0.mk (Kd.R_lower (Kd.R_new' ho17 (Kd.R_lt (by refine ra (h := ?_); exact (Kd.R_mono (Kd.R_far (p := ⟨gb183, 2, none⟩) (Kd.R_far (p := ⟨gb183, 1, none⟩) (Kd.R_far (p := ⟨gb183, 0, none⟩) (Kd.R_types HO179.out BK183.out (by decide)) (fun _ hk => hk.2) (.slice Ao12 t180.length co12)) (fun _ hk => hk.2) (.slice none 0 0)) (fun _ hk => hk.2) (.slice none 0 0)) (fun _ h_ => h_.1))))) (below_size bw)); replace HO179 := Aside0.mk (Kd.R_elder' (by refine ra (h := ?_); exact (Kd.R_mono (Kd.R_far (p := ⟨gb183, 2, none⟩) (Kd.R_far (p := ⟨gb183, 1, none⟩) (Kd.R_far (p := ⟨gb183, 0, none⟩) (Kd.R_types HO179.out BK183.out (by decide)) (fun _ hk => hk.2) (.slice Ao12 t180.length co12)) (fun _ hk => hk.2) (.slice none 0 0)) (fun _ hk => hk.2) (.slice none 0 0)) (fun _ h_ => h_.1))) (Kd.R_base ho17) hb); replace HO182 := Aside0.mk (Kd.R_below (by refine ra (h := ?_); exact (Kd.R_mono (Kd.R_far (p := ⟨gb183, 2, none⟩) (Kd.R_far (p := ⟨gb183, 1, none⟩) (Kd.R_far (p := ⟨gb183, 0, none⟩) (Kd.R_types HO182.out BK183.out (by decide)) (fun _ hk => hk.2) (.slice Ao12 t180.length co12)) (fun _ hk => hk.2) (.slice none 0 0)) (fun _ hk => hk.2) (.slice none 0 0)) (fun _ h_ => h_.1))) hb); replace BK174 := Aside0.mk (blk_below (g := gb174) (o := .cells #[.slice none 0 0, .slice none 0 0, .slice none 0 0] 65 (0, 0)) (by refine bk (h := ?_); refine blk_far ?_ NB174_183.out _; refine bk (h := ?_); refine blk_far ?_ NB174_183.out _; refine bk (h := ?_); refine blk_far ?_ NB174_183.out _; refine bk (h := ?_); exact BK174.out) hb); replace BK183 := Aside0.mk (blk_below (g := gb183) (o := .cells #[.slice Ao12 t180.length co12, .slice none 0 0, .slice none 0 0] 65 (0, 0)) (by refine bk (h := ?_); refine blk_put (cs := #[.slice Ao12 t180.length co12, .slice none 0 0, .slice none 0 0]) ?_ 2 _ rfl; refine bk (h := ?_); refine blk_put (cs := #[.slice Ao12 t180.length co12, .slice none 0 0, .slice none 0 0]) ?_ 1 _ rfl; refine bk (h := ?_); refine blk_put (cs := #[.slice none 0 0, .slice none 0 0, .slice none 0 0]) ?_ 0 _ rfl; refine bk (h := ?_); exact BK183.out) hb); replace HB := bs hb; clear hb ho17))
      go_loopg [11, 12] k (fun kq v11 v12 w' => ∃ (x11_1 : List Int) (x12_1 : Int) (x184001_1 : List (S121)) (u184001 : Value), v12 = .int .i64 x12_1 ∧ Aside0 (spec_StackState.l0 kq a0 a1 t176 x11_1 x12_1 t180 x184001_1 = some (r1, r2, r3, r4)) ∧ Aside0 (kq ≤ k) ∧ Aside0 (Kd.R (Kd.int .i64) 2 w' w.heap.size (fun k_ => some k_ ≠ (v11 : Value).ownBlock) v178 t176) ∧ Aside0 (Kd.R (Kd.int .i64) 2 w' w.heap.size (fun k_ => some k_ ≠ (v178 : Value).ownBlock) v11 x11_1) ∧ Aside0 (Kd.R k130 130 w' w.heap.size (fun _ => True) (.slice Ao12 t180.length co12) t180) ∧ Aside0 (Kd.S k121 121 w' w.heap.size (fun k_ => some k_ ≠ ((.slice Ao12 t180.length co12) : Value).ownBlock) u184001 x184001_1) ∧ Aside0 (w'.heap[gb174]? = some (.cells #[(.slice none 0 0), (.slice none 0 0), (.slice none 0 0)] 65 (0, 0))) ∧ Aside0 (w'.heap[gb183]? = some (.cells #[(.slice Ao12 t180.length co12), u184001, (.slice none 0 0)] 65 (0, 0))) ∧ Aside0 (Below w.heap.size w w'))
      case atStart => exact ⟨(y184), (0), (([] : List (S121))), (.slice none 0 0), (by first | rfl | (simp; done) | (simp [*]; done)), H', ⟨Nat.le_refl _⟩, ⟨by refine ra (h := ?_); exact Kd.R_mono HO179.out (fun _ hk => hk.2)⟩, ⟨by refine ra (h := ?_); exact Kd.R_mono HO186.out (fun _ hk => hk.2)⟩, ⟨by refine ra (h := ?_); exact HO182.out⟩, ⟨by first | exact Kd.S_nil _ _ _ _ _ | exact Kd.N_nil _ _ _ _ _ | exact Kd.V_nil _ _ _ _ _ | exact Kd.Q_nil _ _ _ _ _ | exact Kd.R_nil _ _ _ _ _⟩, ⟨by refine bk (h := ?_); exact BK174.out⟩, ⟨by refine bk (h := ?_); exact BK183.out⟩, ⟨bw⟩⟩
      case round =>
        clear H'
        try clear c1
        try clear c2
        try clear p2
        try clear c3
        try clear c5
        try clear p6
        try clear c7
        try clear c8
        try clear c9
        try clear c14
        try clear z15_0 z15_1 z15_2 y15_0 y15_1 y15_2
        obtain ⟨x11_1, x12_1, x184001_1, u184001, rfl, HA, HK1, HO_8, HO_11, HO_184000, HO_184001, BK174, BK183, HB⟩ := hrel
        cases gk with
        | zero => exact absurd HA.out (by simp [spec_StackState.l0])
        | succ k1 =>
          have H := HA.out
          clear HA
          simp only [spec_StackState.l0] at H
          by_cases c18 : x12_1 < a1
          · rw [if_pos c18] at H
            have c18b0 : decide (x12_1 < a1) = true := decide_eq_true c18
            clear c18
            have H' := Aside0.mk H
            clear H
            go_wp2
            go_loopg [11, 13] k1 (fun kq v11 v13 w' => ∃ (x11_2 : List Int) (x13_2 : Int) (x184001_2 : List (S121)) (u184001 : Value), v13 = .int .i64 x13_2 ∧ Aside0 (spec_StackState.l1 kq a0 a1 t176 x11_2 x12_1 x13_2 t180 x184001_2 = some (r1, r2, r3, r4)) ∧ Aside0 (kq ≤ k1) ∧ Aside0 (Kd.R (Kd.int .i64) 2 w' w.heap.size (fun k_ => some k_ ≠ (v11 : Value).ownBlock) v178 t176) ∧ Aside0 (Kd.R (Kd.int .i64) 2 w' w.heap.size (fun k_ => some k_ ≠ (v178 : Value).ownBlock) v11 x11_2) ∧ Aside0 (Kd.R k130 130 w' w.heap.size (fun _ => True) (.slice Ao12 t180.length co12) t180) ∧ Aside0 (Kd.S k121 121 w' w.heap.size (fun k_ => some k_ ≠ ((.slice Ao12 t180.length co12) : Value).ownBlock) u184001 x184001_2) ∧ Aside0 (w'.heap[gb174]? = some (.cells #[(.slice none 0 0), (.slice none 0 0), (.slice none 0 0)] 65 (0, 0))) ∧ Aside0 (w'.heap[gb183]? = some (.cells #[(.slice Ao12 t180.length co12), u184001, (.slice none 0 0)] 65 (0, 0))) ∧ Aside0 (Below w.heap.size w w'))
            case atStart => exact ⟨(x11_1), (0), (x184001_1), (u184001), (by first | rfl | (simp; done) | (simp [*]; done)), H', ⟨Nat.le_refl _⟩, ⟨by refine ra (h := ?_); exact HO_8.out⟩, ⟨by refine ra (h := ?_); exact HO_11.out⟩, ⟨by refine ra (h := ?_); exact HO_184000.out⟩, ⟨by (with_reducible repeat (first | apply Kd.S_alloc | apply Kd.S_drewN | apply Kd.S_drew)); exact HO_184001.out⟩, ⟨by refine bk (h := ?_); exact BK174.out⟩, ⟨by refine bk (h := ?_); exact BK183.out⟩, ⟨bw⟩⟩
            case round =>
              clear H'
              try clear c1
              try clear c2
              try clear p2
              try clear c3
              try clear c5
              try clear p6
              try clear c7
              try clear c8
              try clear c9
              try clear c14
              try clear c18
              try clear c18b0
              try clear z15_0 z15_1 z15_2 y15_0 y15_1 y15_2
              try clear p2
              try clear p6
              obtain ⟨x11_2, x13_2, x184001_2, u184001, rfl, HA, HK2, HO_8, HO_11, HO_184000, HO_184001, BK174, BK183, HB⟩ := hrel
              cases gk with
              | zero => exact absurd HA.out (by simp [spec_StackState.l1])
              | succ k2 =>
                have H := HA.out
                clear HA
                simp only [spec_StackState.l1] at H
                by_cases c19 : x13_2 < a0
                · rw [if_pos c19] at H
                  have c19b0 : decide (x13_2 < a0) = true := decide_eq_true c19
                  clear c19
                  replace H := Option.bind_eq_some_iff.mp H
                  obtain ⟨t187, A200, H⟩ := H
                  replace H : ((spec_l26Motion.f k2 x13_2 x12_1).bind fun bt190 => (if x184001_2.length < 1599289640401 then (if 0 ≤ (wrap64 ((wrap64 (x13_2 * a1)) + x12_1)) then (if (wrap64 ((wrap64 (x13_2 * a1)) + x12_1)) < (t176.length : Int) then (if x11_2.length < 17592186044416 then (spec_StackState.l1 k2 a0 a1 t176 (x11_2 ++ [rd t176 (wrap64 ((wrap64 (x13_2 * a1)) + x12_1))]) x12_1 (wrap64 (x13_2 + 1)) t180 (x184001_2 ++ [(⟨t187, (⟨bt190.1, bt190.2.1, (⟨bt190.2.2.1, bt190.2.2.2.1, bt190.2.2.2.2.1⟩ : S94), (⟨bt190.2.2.2.2.2.1, bt190.2.2.2.2.2.2.1, bt190.2.2.2.2.2.2.2⟩ : S94)⟩ : S118)⟩ : S121)])) else (none)) else (none)) else (none)) else (none))) = some (r1, r2, r3, r4) := H
                  have A20 := Aside0.mk A200
                  clear A200
                  replace H := Option.bind_eq_some_iff.mp H
                  obtain ⟨⟨t190, t191, t192, t193, t194, t195, t196, t197⟩, A210, H⟩ := H
                  replace H : (if x184001_2.length < 1599289640401 then (if 0 ≤ (wrap64 ((wrap64 (x13_2 * a1)) + x12_1)) then (if (wrap64 ((wrap64 (x13_2 * a1)) + x12_1)) < (t176.length : Int) then (if x11_2.length < 17592186044416 then (spec_StackState.l1 k2 a0 a1 t176 (x11_2 ++ [rd t176 (wrap64 ((wrap64 (x13_2 * a1)) + x12_1))]) x12_1 (wrap64 (x13_2 + 1)) t180 (x184001_2 ++ [(⟨t187, (⟨t190, t191, (⟨t192, t193, t194⟩ : S94), (⟨t195, t196, t197⟩ : S94)⟩ : S118)⟩ : S121)])) else (none)) else (none)) else (none)) else (none)) = some (r1, r2, r3, r4) := H
                  have A21 := Aside0.mk A210
                  clear A210
                  by_cases c22 : x184001_2.length < 1599289640401
                  · rw [if_pos c22] at H
                    have LMc22 := Aside0.mk c22
                    clear c22
                    obtain ⟨y198, hy198⟩ : ∃ y_ : List (S121), y_ = (x184001_2 ++ [(⟨t187, (⟨t190, t191, (⟨t192, t193, t194⟩ : S94), (⟨t195, t196, t197⟩ : S94)⟩ : S118)⟩ : S121)]) := ⟨_, rfl⟩
                    replace H : (if 0 ≤ (wrap64 ((wrap64 (x13_2 * a1)) + x12_1)) then (if (wrap64 ((wrap64 (x13_2 * a1)) + x12_1)) < (t176.length : Int) then (if x11_2.length < 17592186044416 then (spec_StackState.l1 k2 a0 a1 t176 (x11_2 ++ [rd t176 (wrap64 ((wrap64 (x13_2 * a1)) + x12_1))]) x12_1 (wrap64 (x13_2 + 1)) t180 y198) else (none)) else (none)) else (none)) = some (r1, r2, r3, r4) := by first | (rw [hy198]; with_reducible exact H) | (have H2_ := (Option.bind_some _ _).symm.trans H; rw [hy198]; with_reducible exact H2_) | (have H2_ := (Option.bind_some _ _).symm.trans H; with_reducible exact H2_) | with_reducible exact H | (rw [hy198]; exact H) | exact H
                    have Ny198 := Aside0.mk hy198
                    clear hy198
                    obtain ⟨ji23, hji23⟩ : ∃ j_ : Int, (wrap64 ((wrap64 (x13_2 * a1)) + x12_1)) = j_ := ⟨_, rfl⟩
                    replace H : (if 0 ≤ (ji23) then (if (ji23) < (t176.length : Int) then (if x11_2.length < 17592186044416 then (spec_StackState.l1 k2 a0 a1 t176 (x11_2 ++ [rd t176 (ji23)]) x12_1 (wrap64 (x13_2 + 1)) t180 y198) else (none)) else (none)) else (none)) = some (r1, r2, r3, r4) := by first | (rw [hji23] at H; exact H) | (simp only [hji23] at H ⊢; exact H)
                    (try rw [hji23] at A20)
                    (try rw [hji23] at A21)
                    have hji23w : (IntKind.i64.wrap ((wrap64 (x13_2 * a1)) + x12_1)) = ji23 := (i64_w _).trans hji23
                    by_cases c24 : 0 ≤ (ji23)
                    · rw [if_pos c24] at H
                      have c24b0 : decide (0 ≤ (ji23)) = true := decide_eq_true c24
                      clear c24
                      by_cases c25 : (ji23) < (t176.length : Int)
                      · rw [if_pos c25] at H
                        have c25b0 : decide ((ji23) < (t176.length : Int)) = true := decide_eq_true c25
                        clear c25
                        by_cases c26 : x11_2.length < 17592186044416
                        · rw [if_pos c26] at H
                          have LMc26 := Aside0.mk c26
                          clear c26
                          obtain ⟨y202, hy202⟩ : ∃ y_ : List Int, y_ = (x11_2 ++ [rd t176 (ji23)]) := ⟨_, rfl⟩
                          replace H : (spec_StackState.l1 k2 a0 a1 t176 y202 x12_1 (wrap64 (x13_2 + 1)) t180 y198) = some (r1, r2, r3, r4) := by first | (rw [hy202]; with_reducible exact H) | (have H2_ := (Option.bind_some _ _).symm.trans H; rw [hy202]; with_reducible exact H2_) | (have H2_ := (Option.bind_some _ _).symm.trans H; with_reducible exact H2_) | with_reducible exact H | (rw [hy202]; exact H) | exact H
                          have Ny202 := Aside0.mk hy202
                          clear hy202
                          have H' := Aside0.mk H
                          clear H
                          try go_wp2
                          replace HO_8 := Aside0.mk (Kd.R_drew HO_8.out)
                          replace HO_11 := Aside0.mk (Kd.R_drew HO_11.out)
                          replace HO_184000 := Aside0.mk (Kd.R_drew HO_184000.out)
                          replace HO_184001 := Aside0.mk (Kd.S_drew HO_184001.out)
                          replace BK174 := Aside0.mk (blk_drew BK174.out)
                          replace BK183 := Aside0.mk (blk_drew BK183.out)
                          replace HB := Aside0.mk (below_drew1 HB.out)
                          refine start_ (n := 13) (S := fun w' => w'.cell? ⟨gb183, 0, none⟩ = some (.slice Ao12 t180.length co12) ∧ w'.cell? ⟨gb183, 1, none⟩ = some (u184001) ∧ w'.cell? ⟨gb183, 2, none⟩ = some (.slice none 0 0)) (ds := [12]) #[false, false, false, false, false, false, false, false, false, false, false, false, false] (by kernel_rfl) rfl rfl ⟨(blk_cell BK183.out 0).trans rfl, (blk_cell BK183.out 1).trans rfl, (blk_cell BK183.out 2).trans rfl⟩ (fun hHeld => ?_); refine with_tabW spec_StackState.tab14 spec_StackState.bits14 (fun HT_ HW_ => ?_)
                          generalize wr.drew = w27 at HO_8 HO_11 HO_184000 HO_184001 BK174 BK183 HB hHeld ⊢
                          refine pure_ (i := 0) (N := some 48) (v := ?_) (a' := ?_) #[true, false, false, false, false, false, false, false, false, false, false, false, false] rfl rfl (any_of HT_.out (by kernel_rfl)) (fun _ _ _ h => h) (Or.inl ⟨by rfl, ?_⟩) ?_ ?_
                          rotate_left
                          · intro w'
                            go_simp
                            with_reducible rfl
                          rotate_left
                          · simp only [Act.put, List.setIfInBounds_toArray, List.set_cons_zero, List.set_cons_succ, i64_w, i32_w]
                            rfl
                          refine pure_ (i := 2) (N := some 50) (v := ?_) (a' := ?_) #[true, false, true, false, false, false, false, false, false, false, false, false, false] rfl rfl (any_of HT_.out (by kernel_rfl)) (fun _ _ _ h => h) (Or.inl ⟨by rfl, ?_⟩) ?_ ?_
                          rotate_left
                          · intro w'
                            go_simp
                            with_reducible rfl
                          rotate_left
                          · simp only [Act.put, List.setIfInBounds_toArray, List.set_cons_zero, List.set_cons_succ, i64_w, i32_w]
                            rfl
                          refine pure_ (i := 3) (N := some 51) (v := ?_) (a' := ?_) #[true, false, true, true, false, false, false, false, false, false, false, false, false] rfl rfl (any_of HT_.out (by kernel_rfl)) (fun _ _ _ h => h) (Or.inl ⟨by rfl, ?_⟩) ?_ ?_
                          rotate_left
                          · intro w'
                            go_simp
                            with_reducible rfl
                          rotate_left
                          · simp only [Act.put, List.setIfInBounds_toArray, List.set_cons_zero, List.set_cons_succ, i64_w, i32_w]
                            rfl
                          refine pure_ (i := 5) (N := some 53) (v := ?_) (a' := ?_) #[true, false, true, true, false, true, false, false, false, false, false, false, false] rfl rfl (any_of HT_.out (by kernel_rfl)) (fun _ _ _ h => h) (Or.inl ⟨by rfl, ?_⟩) ?_ ?_
                          rotate_left
                          · intro w'
                            go_simp
                            with_reducible rfl
                          rotate_left
                          · simp only [Act.put, List.setIfInBounds_toArray, List.set_cons_zero, List.set_cons_succ, i64_w, i32_w]
                            rfl
                          refine pure_ (i := 6) (N := some 54) (v := ?_) (a' := ?_) #[true, false, true, true, false, true, true, false, false, false, false, false, false] rfl rfl (any_of HT_.out (by kernel_rfl)) (fun _ _ _ h => h) (Or.inl ⟨by rfl, ?_⟩) ?_ ?_
                          rotate_left
                          · intro w'
                            go_simp
                            with_reducible rfl
                          rotate_left
                          · simp only [Act.put, List.setIfInBounds_toArray, List.set_cons_zero, List.set_cons_succ, i64_w, i32_w]
                            rfl
                          refine take_ (i := 1) (N := some 49) (v := ?_) (a' := ?_) #[true, true, true, true, false, true, true, false, false, false, false, false, false] rfl rfl (take_ofW HT_.out HW_.out (by kernel_rfl)) (fun _ _ _ h => h) (Or.inl ⟨by rfl, ?_⟩) hHeld ?_ ?_
                          rotate_left
                          · rintro w' ⟨s0, s1, s2⟩
                            go_simp
                            with_reducible rfl
                          rotate_left
                          · simp only [Act.put, List.setIfInBounds_toArray, List.set_cons_zero, List.set_cons_succ, i64_w, i32_w]
                            rfl
                          refine one_ (i := 4) (N := some 52) #[true, true, true, true, true, true, true, false, false, false, false, false, false] rfl rfl (one_of HT_.out (by kernel_rfl)) (by decide) (fun K hK => ?_)
                          refine goes_ Try.func92 (by kernel_rfl) rfl #[.int .i64 x12_1, .int .i64 x13_2, .int .i64 1, .int .i64 1] (by rfl) rfl rfl (by (try simp only [List.map_toArray, List.map_cons, List.map_nil]); first | done | rfl | (simp only [List.length_drop, List.length_take]; rfl)) ?_
                          with_reducible refine (spec_l26Box.calls x12_1 x13_2 1 1 t187 _ A20.out).mono ?_
                          rintro e w28 ⟨v188, rfl, ho0, hb⟩
                          refine ⟨_, rfl, ?_⟩
                          have HO189 := Aside0.mk (Kd.R_lower (Kd.R_new' ho0 (Kd.R_lt (ra (h := HO_184000.out)))) (below_size bw))
                          replace HO_8 := Aside0.mk (Kd.R_below (ra (h := HO_8.out)) hb)
                          replace HO_11 := Aside0.mk (Kd.R_below (ra (h := HO_11.out)) hb)
                          replace HO_184000 := Aside0.mk (Kd.R_elder' (ra (h := HO_184000.out)) (Kd.R_base ho0) hb)
                          replace HO_184001 := Aside0.mk (Kd.S_elder' (by (with_reducible repeat (first | apply Kd.S_alloc | apply Kd.S_drewN | apply Kd.S_drew)); exact HO_184001.out) (Kd.R_base ho0) hb)
                          replace BK174 := bb BK174 hb
                          replace BK183 := bb BK183 hb
                          replace HB := bs hb
                          (try clear hb)
                          (try clear hb2)
                          (try clear hk)
                          (try clear hi)
                          (try clear ho0)
                          refine hK.out _ _ ⟨(blk_cell BK183.out 0).trans rfl, (blk_cell BK183.out 1).trans rfl, (blk_cell BK183.out 2).trans rfl⟩ (fun hHeld => ?_)
                          clear hK K
                          refine norm_ (a' := ?_) ?_ ?_
                          rotate_left
                          · show Act.put _ (some 52) _ = _
                            simp only [Act.put, List.setIfInBounds_toArray, List.set_cons_zero, List.set_cons_succ, i64_w, i32_w]
                            rfl
                          refine one_ (i := 7) (N := some 55) #[true, true, true, true, true, true, true, true, false, false, false, false, false] rfl rfl (one_of HT_.out (by kernel_rfl)) (by decide) (fun K hK => ?_)
                          refine goes_ Try.func93 (by kernel_rfl) rfl #[.int .i64 x13_2, .int .i64 x12_1] (by rfl) rfl rfl (by (try simp only [List.map_toArray, List.map_cons, List.map_nil]); first | done | rfl | (simp only [List.length_drop, List.length_take]; rfl)) ?_
                          with_reducible refine (spec_l26Motion.calls k2 x13_2 x12_1 t190 t191 t192 t193 t194 t195 t196 t197 _ A21.out).mono ?_
                          rintro e w29 ⟨rfl, hb⟩
                          refine ⟨_, rfl, ?_⟩
                          replace HO_8 := Aside0.mk (Kd.R_below (ra (h := HO_8.out)) hb)
                          replace HO_11 := Aside0.mk (Kd.R_below (ra (h := HO_11.out)) hb)
                          replace HO_184000 := Aside0.mk (Kd.R_below (ra (h := HO_184000.out)) hb)
                          replace HO_184001 := Aside0.mk (Kd.S_below (by (with_reducible repeat (first | apply Kd.S_alloc | apply Kd.S_drewN | apply Kd.S_drew)); exact HO_184001.out) hb)
                          replace HO189 := Aside0.mk (Kd.R_below (ra (h := HO189.out)) hb)
                          replace BK174 := bb BK174 hb
                          replace BK183 := bb BK183 hb
                          replace HB := bs hb
                          (try clear hb)
                          (try clear hb2)
                          (try clear hk)
                          (try clear hi)
                          obtain ⟨Ao30, co30, eo30⟩ := Kd.R_slice HO189.out
                          (first | subst eo30 | (injection eo30 with f1_ f2_ f3_; have f4_ := f1_.symm; have f5_ := f3_.symm; clear f1_ f2_ f3_; subst f4_; subst f5_))
                          refine hK.out _ _ ⟨(blk_cell BK183.out 0).trans rfl, (blk_cell BK183.out 1).trans rfl, (blk_cell BK183.out 2).trans rfl⟩ (fun hHeld => ?_)
                          clear hK K
                          refine norm_ (a' := ?_) ?_ ?_
                          rotate_left
                          · show Act.put _ (some 55) _ = _
                            simp only [Act.put, List.setIfInBounds_toArray, List.set_cons_zero, List.set_cons_succ, i64_w, i32_w]
                            rfl
                          refine pure_ (i := 8) (N := some 56) (v := ?_) (a' := ?_) #[true, true, true, true, true, true, true, true, true, false, false, false, false] rfl rfl (any_of HT_.out (by kernel_rfl)) (fun _ _ _ h => h) (Or.inl ⟨by rfl, ?_⟩) ?_ ?_
                          rotate_left
                          · intro w'
                            go_simp
                            with_reducible rfl
                          rotate_left
                          · simp only [Act.put, List.setIfInBounds_toArray, List.set_cons_zero, List.set_cons_succ, i64_w, i32_w]
                            rfl
                          refine one_ (i := 9) (N := some 57) #[true, true, true, true, true, true, true, true, true, true, false, false, false] rfl rfl (one_of HT_.out (by kernel_rfl)) (by decide) (fun K hK => ?_)
                          refine value_ (w1 := ?_) (v := ?_) (by rfl) rfl ?_ ?_
                          rotate_left 2
                          · go_simp
                            constructor
                            · rfl
                            · rfl
                          refine hK.out _ _ ⟨(blk_cell (blk_alloc BK183.out _) 0).trans rfl, (blk_cell (blk_alloc BK183.out _) 1).trans rfl, (blk_cell (blk_alloc BK183.out _) 2).trans rfl⟩ (fun hHeld => ?_)
                          clear hK K
                          refine norm_ (a' := ?_) ?_ ?_
                          rotate_left
                          · show Act.put _ (some 57) _ = _
                            simp only [Act.put, List.setIfInBounds_toArray, List.set_cons_zero, List.set_cons_succ, i64_w, i32_w]
                            rfl
                          refine one_ (i := 10) (N := some 58) #[true, true, true, true, true, true, true, true, true, true, true, false, false] rfl rfl (one_of HT_.out (by kernel_rfl)) (by decide) (fun K hK => ?_)
                          refine Kd.S_append_step k121 (w0 := w) w.heap.size (by rfl) (.tmp 49) (.tmp 57) 63 121 (.agg #[(.slice none 0 0), (.int .i64 0), (.bool false), (.int .i64 0), (.int .i64 0), (.int .i64 0), (.int .i64 0), (.int .i64 0), (.int .i64 0)]) 88 rfl Try.underlying63 info121 rfl (by decide) (by omega) u184001 x184001_2 (⟨t187, (⟨t190, t191, (⟨t192, t193, t194⟩ : S94), (⟨t195, t196, t197⟩ : S94)⟩ : S118)⟩ : S121) [.slice Ao30 t187.length co30, .int .i64 t190, .bool t191, .int .i64 t192, .int .i64 t193, .int .i64 t194, .int .i64 t195, .int .i64 t196, .int .i64 t197] (fun k_ => some k_ ≠ (.slice Ao12 t180.length co12 : Value).ownBlock) (fun k_ => some k_ = (.slice Ao30 t187.length co30 : Value).ownBlock) rfl rfl ?aP (fun k_ hk_ => ((Kd.R_mono (ok' := fun k_ => ((fun k_ => some k_ ≠ (.slice Ao12 t180.length co12 : Value).ownBlock)) k_ ∧ some k_ ≠ (u184001 : Value).ownBlock) (Kd.R_apart' (HO189.out) (Kd.S_typed HO_184001.out) (by decide)) (fun k_ hk => ⟨hk.1.2, hk.2⟩))).1 k_ hk_.symm) ?aF ?aO ?aB ?aS ?aL ?_
                          (case aP => exact k121_mkM _ _ _ (⟨t187, (⟨t190, t191, (⟨t192, t193, t194⟩ : S94), (⟨t195, t196, t197⟩ : S94)⟩ : S118)⟩ : S121) (Kd.R_mono (Kd.R_tight rfl (Kd.R_mono (ok' := fun k_ => ((fun k_ => some k_ ≠ (.slice Ao12 t180.length co12 : Value).ownBlock)) k_ ∧ some k_ ≠ (u184001 : Value).ownBlock) (Kd.R_apart' (HO189.out) (Kd.S_typed HO_184001.out) (by decide)) (fun k_ hk => ⟨hk.1.2, hk.2⟩))) (fun _ h_ => h_)))
                          (case aB => exact bw)
                          (case aF => exact (fun k_ hk => Kd.fresh' (Kd.R_lt (ra (h := HO_184000.out))) k_ hk))
                          (case aO => exact (by (with_reducible repeat (first | apply Kd.S_alloc | apply Kd.S_drewN | apply Kd.S_drew)); exact Kd.S_mono HO_184001.out (fun k_ hk => ⟨hk.1, fun e_ => hk.2 e_⟩)))
                          (case aS => exact (below_size bw))
                          (case aL => have := LMc22.out; omega)
                          intro v199 w31 ho hb hg hat
                          rw [← Ny198.out] at ho
                          have HO200 := Aside0.mk (ho)
                          replace HO_8 := Aside0.mk (Kd.R_over' (ra (h := HO_8.out)) (Kd.S_typed (by (with_reducible repeat (first | apply Kd.S_alloc | apply Kd.S_drewN | apply Kd.S_drew)); exact HO_184001.out)) (by decide) hg)
                          replace HO_11 := Aside0.mk (Kd.R_over' (ra (h := HO_11.out)) (Kd.S_typed (by (with_reducible repeat (first | apply Kd.S_alloc | apply Kd.S_drewN | apply Kd.S_drew)); exact HO_184001.out)) (by decide) hg)
                          replace HO_184000 := Aside0.mk (Kd.R_over' (ra (h := HO_184000.out)) (Kd.S_typed (by (with_reducible repeat (first | apply Kd.S_alloc | apply Kd.S_drewN | apply Kd.S_drew)); exact HO_184001.out)) (by decide) hg)
                          replace BK174 := Aside0.mk (blk_grown (g := gb174) (o := .cells #[.slice none 0 0, .slice none 0 0, .slice none 0 0] 65 (0, 0)) (by refine bk (h := ?_); exact BK174.out) hg (Kd.S_ne HO_184001.out BK174.out (by decide)))
                          replace BK183 := Aside0.mk (blk_grown (g := gb183) (o := .cells #[.slice Ao12 t180.length co12, u184001, .slice none 0 0] 65 (0, 0)) (by refine bk (h := ?_); exact BK183.out) hg (Kd.S_ne HO_184001.out BK183.out (by decide)))
                          replace HB := Aside0.mk (hb)
                          clear HO_184001 HO189
                          clear ho hb hg hat
                          obtain ⟨Ao32, co32, eo32⟩ := Kd.S_slice HO200.out
                          (first | subst eo32 | (injection eo32 with f1_ f2_ f3_; have f4_ := f1_.symm; have f5_ := f3_.symm; clear f1_ f2_ f3_; subst f4_; subst f5_))
                          refine hK.out _ _ ⟨(blk_cell BK183.out 0).trans rfl, (blk_cell BK183.out 1).trans rfl, (blk_cell BK183.out 2).trans rfl⟩ (fun hHeld => ?_)
                          clear hK K
                          refine norm_ (a' := ?_) ?_ ?_
                          rotate_left
                          · show Act.put _ (some 58) _ = _
                            simp only [Act.put, List.setIfInBounds_toArray, List.set_cons_zero, List.set_cons_succ, i64_w, i32_w]
                            rfl
                          refine pure_ (i := 11) (N := some 59) (v := ?_) (a' := ?_) #[true, true, true, true, true, true, true, true, true, true, true, true, false] rfl rfl (any_of HT_.out (by kernel_rfl)) (fun _ _ _ h => h) (Or.inl ⟨by rfl, ?_⟩) ?_ ?_
                          rotate_left
                          · intro w'
                            go_simp
                            with_reducible rfl
                          rotate_left
                          · simp only [Act.put, List.setIfInBounds_toArray, List.set_cons_zero, List.set_cons_succ, i64_w, i32_w]
                            rfl
                          refine last_ (i := 12) (N := none) #[true, true, true, true, true, true, true, true, true, true, true, true, true] rfl rfl (one_of HT_.out (by kernel_rfl)) (by decide) (fun K hK => ?_)
                          have hs33 : w31.cell? ⟨gb183, 1, none⟩ = some (u184001) := (blk_cell BK183.out 1).trans rfl
                          have hfs33 := blk_frozen BK183.out 1
                          have hns33_0 := NB174_183.out
                          have hms33_0 := NB183_174.out
                          refine skip_ (w1 := ?_) (by rfl) rfl ?_ ?_
                          rotate_left
                          · go_simp
                            rfl
                          refine hK.out _ _ ?_
                          clear hK K
                          refine done_ (done_of HT_.out (by kernel_rfl)) ?_
                          obtain ⟨Ao34, co34, eo34⟩ := Kd.R_slice HO_8.out
                          subst eo34
                          have p201 : 0 ≤ ((ji23) : Int) := od
                          have q201 : (ji23) < (t176.length : Int) := od
                          obtain ⟨ad201, e201, hx201_0⟩ := Kd.at_int (Kd.R_reads' HO_8.out).2.2 (ji23) p201 q201
                          cases e201
                          have hn201_0 : ad201.block ≠ gb183 := Kd.own_blk (Kd.R_ne HO_8.out BK183.out (by decide))
                          replace hx201_0 := cf ⟨gb183, 1, none⟩ (.slice Ao32 y198.length co32) hn201_0 hx201_0
                          clear hn201_0
                          replace p201 := eq_true p201
                          replace q201 := eq_true q201
                          try go_wp2_with (first | ((with_reducible refine gate_builtin (b := .append) (xs := #[.tmp 60, .tmp 69]) rfl ?_); at_builtin; refine Kd.R_append (Kd.int .i64) (w0 := w) w.heap.size rfl (.tmp 60) (.tmp 69) 24 2 (.int .i64 0) 8 rfl Try.underlying24 info2 rfl (by decide) (by omega) u11 x11_2 (rd t176 (ji23)) [.int .i64 (rd t176 (ji23))] (fun k_ => some k_ ≠ (.slice (some ad201) t176.length co34 : Value).ownBlock) (fun _ => False) rfl (by first | (go_simp; done) | (go_simp; rfl)) ?aP (fun _ hk => hk.elim) ?aF ?aO ?aB ?aS ?aL ?_; (case aP => exact rfl); (case aB => exact bw); (case aF => exact (fun k_ hk => Kd.fresh' (Kd.R_lt (by refine ra (h := ?_); exact (Kd.R_mono (Kd.R_far (p := ⟨gb183, 1, none⟩) (Kd.R_types HO_8.out BK183.out (by decide)) (fun _ hk => hk.2) (.slice Ao32 y198.length co32)) (fun _ h_ => h_.1)))) k_ hk)); (case aO => exact (by refine ra (h := ?_); exact Kd.R_mono (Kd.R_far (p := ⟨gb183, 1, none⟩) (Kd.R_types HO_11.out BK183.out (by decide)) (fun _ hk => hk.2) (.slice Ao32 y198.length co32)) (fun _ hk => hk.1))); (case aS => exact (below_size bw)); (case aL => have := LMc26.out; omega); intro v203 w35 ho hb hg hat; rw [← Ny202.out] at ho; have HO204 := Aside0.mk (ho); replace HO_8 := Aside0.mk (Kd.R_after (ok := (fun _ => True)) (by refine ra (h := ?_); exact Kd.R_mono (Kd.R_far (p := ⟨gb183, 1, none⟩) (Kd.R_types HO_8.out BK183.out (by decide)) (fun _ hk => hk.2) (.slice Ao32 y198.length co32)) (fun _ hk => ⟨trivial, hk.1⟩)) hg hat); replace HO_184000 := Aside0.mk (Kd.R_over' (by refine ra (h := ?_); exact (Kd.R_mono (Kd.R_far (p := ⟨gb183, 1, none⟩) (Kd.R_types HO_184000.out BK183.out (by decide)) (fun _ hk => hk.2) (.slice Ao32 y198.length co32)) (fun _ h_ => h_.1))) (Kd.R_typed (by refine ra (h := ?_); exact (Kd.R_mono (Kd.R_far (p := ⟨gb183, 1, none⟩) (Kd.R_types HO_11.out BK183.out (by decide)) (fun _ hk => hk.2) (.slice Ao32 y198.length co32)) (fun _ h_ => h_.1)))) (by decide) hg); replace BK174 := Aside0.mk (blk_grown (g := gb174) (o := .cells #[.slice none 0 0, .slice none 0 0, .slice none 0 0] 65 (0, 0)) (by refine bk (h := ?_); refine blk_far ?_ NB174_183.out _; refine bk (h := ?_); exact BK174.out) hg (Kd.R_ne HO_11.out BK174.out (by decide))); replace HO200 := Aside0.mk (Kd.S_over' (by (with_reducible repeat (first | apply Kd.S_alloc | apply Kd.S_drewN | apply Kd.S_drew)); exact (Kd.S_mono (Kd.S_far (p := ⟨gb183, 1, none⟩) (Kd.S_types HO200.out BK183.out (by decide)) (fun _ hk => hk.2) (.slice Ao32 y198.length co32)) (fun _ h_ => h_.1))) (Kd.R_typed (by refine ra (h := ?_); exact (Kd.R_mono (Kd.R_far (p := ⟨gb183, 1, none⟩) (Kd.R_types HO_11.out BK183.out (by decide)) (fun _ hk => hk.2) (.slice Ao32 y198.length co32)) (fun _ h_ => h_.1)))) (by decide) hg); replace BK183 := Aside0.mk (blk_grown (g := gb183) (o := .cells #[.slice Ao12 t180.length co12, .slice Ao32 y198.length co32, .slice none 0 0] 65 (0, 0)) (by refine bk (h := ?_); refine blk_put (cs := #[.slice Ao12 t180.length co12, u184001, .slice none 0 0]) ?_ 1 _ rfl; refine bk (h := ?_); exact BK183.out) hg (Kd.R_ne HO_11.out BK183.out (by decide))); replace HB := Aside0.mk (hb); clear HO_11; clear ho hb hg hat))
                          go_roundg k2
                          case measure => have := HK1.out; have := HK2.out; omega
                          case rel => exact ⟨(y202), (wrap64 (x13_2 + 1)), (y198), (.slice Ao32 y198.length co32), (by first | rfl | (simp; done) | (simp [*]; done)), H', ⟨by have := HK1.out; have := HK2.out; omega⟩, ⟨by refine ra (h := ?_); exact Kd.R_mono HO_8.out (fun _ hk => hk.2)⟩, ⟨by refine ra (h := ?_); exact HO204.out⟩, ⟨by refine ra (h := ?_); exact Kd.R_mono HO_184000.out (fun _ hk => trivial)⟩, ⟨by (with_reducible repeat (first | apply Kd.S_alloc | apply Kd.S_drewN | apply Kd.S_drew)); exact HO200.out⟩, ⟨by refine bk (h := ?_); exact BK174.out⟩, ⟨by refine bk (h := ?_); exact BK183.out⟩, ⟨bw⟩⟩
                        · rw [if_neg c26] at H
                          exact absurd H (by simp)
                      · rw [if_neg c25] at H
                        exact absurd H (by simp)
                    · rw [if_neg c24] at H
                      exact absurd H (by simp)
                  · rw [if_neg c22] at H
                    exact absurd H (by simp)
                · rw [if_neg c19] at H
                  have c19b0 : decide (x13_2 < a0) = false := decide_eq_false c19
                  clear c19
                  have H' := Aside0.mk H
                  clear H
                  go_wp2
                  go_roundg k2
                  case measure => have := HK1.out; have := HK2.out; omega
                  case rel => exact ⟨(x11_2), (wrap64 (x12_1 + 1)), (x184001_2), (u184001), (by first | rfl | (simp; done) | (simp [*]; done)), H', ⟨by have := HK1.out; have := HK2.out; omega⟩, ⟨by refine ra (h := ?_); exact HO_8.out⟩, ⟨by refine ra (h := ?_); exact HO_11.out⟩, ⟨by refine ra (h := ?_); exact HO_184000.out⟩, ⟨by (with_reducible repeat (first | apply Kd.S_alloc | apply Kd.S_drewN | apply Kd.S_drew)); exact HO_184001.out⟩, ⟨by refine bk (h := ?_); exact BK174.out⟩, ⟨by refine bk (h := ?_); exact BK183.out⟩, ⟨bw⟩⟩
          · rw [if_neg c18] at H
            have c18b0 : decide (x12_1 < a1) = false := decide_eq_false c18
            clear c18
            have H' := Aside0.mk H
            clear H
            go_wp2
            go_loopg [14] k1 (fun kq v14 w' => ∃ (x14_2 : Int) (x184002_2 : List Int) (u184002 : Value), v14 = .int .i64 x14_2 ∧ Aside0 (spec_StackState.l2 kq x11_1 x14_2 t180 x184001_1 x184002_2 = some (r1, r2, r3, r4)) ∧ Aside0 (kq ≤ k1) ∧ Aside0 (Kd.R (Kd.int .i64) 2 w' w.heap.size (fun k_ => some k_ ≠ (u184002 : Value).ownBlock) u11 x11_1) ∧ Aside0 (Kd.R k130 130 w' w.heap.size (fun _ => True) (.slice Ao12 t180.length co12) t180) ∧ Aside0 (Kd.S k121 121 w' w.heap.size (fun k_ => some k_ ≠ ((.slice Ao12 t180.length co12) : Value).ownBlock) u184001 x184001_1) ∧ Aside0 (Kd.R (Kd.int .i64) 2 w' w.heap.size (fun k_ => some k_ ≠ (u11 : Value).ownBlock) u184002 x184002_2) ∧ Aside0 (w'.heap[gb174]? = some (.cells #[(.slice none 0 0), (.slice none 0 0), (.slice none 0 0)] 65 (0, 0))) ∧ Aside0 (w'.heap[gb183]? = some (.cells #[(.slice Ao12 t180.length co12), u184001, u184002] 65 (0, 0))) ∧ Aside0 (Below w.heap.size w w'))
            case atStart => exact ⟨(0), (([] : List Int)), (.slice none 0 0), (by first | rfl | (simp; done) | (simp [*]; done)), H', ⟨Nat.le_refl _⟩, ⟨by refine ra (h := ?_); exact Kd.R_mono HO_11.out (fun _ hk => (by simp [Value.ownBlock]))⟩, ⟨by refine ra (h := ?_); exact HO_184000.out⟩, ⟨by (with_reducible repeat (first | apply Kd.S_alloc | apply Kd.S_drewN | apply Kd.S_drew)); exact HO_184001.out⟩, ⟨by first | exact Kd.R_nil _ _ _ _ _ | exact Kd.N_nil _ _ _ _ _ | exact Kd.V_nil _ _ _ _ _ | exact Kd.Q_nil _ _ _ _ _ | exact Kd.S_nil _ _ _ _ _⟩, ⟨by refine bk (h := ?_); exact BK174.out⟩, ⟨by refine bk (h := ?_); exact BK183.out⟩, ⟨bw⟩⟩
            case round =>
              clear H'
              try clear c1
              try clear c2
              try clear p2
              try clear q2
              try clear hx2
              try clear c3
              try clear c5
              try clear p6
              try clear c7
              try clear c8
              try clear c9
              try clear c14
              try clear c18
              try clear c18b0
              try clear c19
              try clear c19b0
              try clear p20
              try clear q20
              try clear hx20
              try clear c22
              try clear c24
              try clear c24b0
              try clear c25
              try clear c25b0
              try clear c26
              try clear z15_0 z15_1 z15_2 y15_0 y15_1 y15_2
              try clear hx201_0
              try clear p2
              try clear p201
              try clear p6
              try clear q201
              obtain ⟨x14_2, x184002_2, u184002, rfl, HA, HK2, HO_11, HO_184000, HO_184001, HO_184002, BK174, BK183, HB⟩ := hrel
              cases gk with
              | zero => exact absurd HA.out (by simp [spec_StackState.l2])
              | succ k2 =>
                have H := HA.out
                clear HA
                simp only [spec_StackState.l2] at H
                by_cases c36 : x14_2 < (x11_1.length : Int)
                · rw [if_pos c36] at H
                  have c36b0 : decide (x14_2 < (x11_1.length : Int)) = true := decide_eq_true c36
                  clear c36
                  have H' := Aside0.mk H
                  clear H
                  obtain ⟨Ao37, co37, eo37⟩ := Kd.R_slice HO_11.out
                  subst eo37
                  go_wp2
                  go_loopg [15] k2 (fun kq v15 w' => ∃ (x15_3 : Int) (x184002_3 : List Int) (u184002 : Value), v15 = .int .i64 x15_3 ∧ Aside0 (spec_StackState.l3 kq x11_1 x14_2 x15_3 t180 x184001_1 x184002_3 = some (r1, r2, r3, r4)) ∧ Aside0 (kq ≤ k2) ∧ Aside0 (Kd.R (Kd.int .i64) 2 w' w.heap.size (fun k_ => some k_ ≠ (u184002 : Value).ownBlock) (.slice Ao37 x11_1.length co37) x11_1) ∧ Aside0 (Kd.R k130 130 w' w.heap.size (fun _ => True) (.slice Ao12 t180.length co12) t180) ∧ Aside0 (Kd.S k121 121 w' w.heap.size (fun k_ => some k_ ≠ ((.slice Ao12 t180.length co12) : Value).ownBlock) u184001 x184001_1) ∧ Aside0 (Kd.R (Kd.int .i64) 2 w' w.heap.size (fun k_ => some k_ ≠ ((.slice Ao37 x11_1.length co37) : Value).ownBlock) u184002 x184002_3) ∧ Aside0 (w'.heap[gb174]? = some (.cells #[(.slice none 0 0), (.slice none 0 0), (.slice none 0 0)] 65 (0, 0))) ∧ Aside0 (w'.heap[gb183]? = some (.cells #[(.slice Ao12 t180.length co12), u184001, u184002] 65 (0, 0))) ∧ Aside0 (Below w.heap.size w w'))
                  case atStart => exact ⟨(0), (x184002_2), (u184002), (by first | rfl | (simp; done) | (simp [*]; done)), H', ⟨Nat.le_refl _⟩, ⟨by refine ra (h := ?_); exact HO_11.out⟩, ⟨by refine ra (h := ?_); exact HO_184000.out⟩, ⟨by (with_reducible repeat (first | apply Kd.S_alloc | apply Kd.S_drewN | apply Kd.S_drew)); exact HO_184001.out⟩, ⟨by refine ra (h := ?_); exact HO_184002.out⟩, ⟨by refine bk (h := ?_); exact BK174.out⟩, ⟨by refine bk (h := ?_); exact BK183.out⟩, ⟨bw⟩⟩
                  case round =>
                    clear H'
                    try clear c1
                    try clear c2
                    try clear p2
                    try clear q2
                    try clear hx2
                    try clear c3
                    try clear c5
                    try clear p6
                    try clear c7
                    try clear c8
                    try clear c9
                    try clear c14
                    try clear c18
                    try clear c18b0
                    try clear c19
                    try clear c19b0
                    try clear p20
                    try clear q20
                    try clear hx20
                    try clear c22
                    try clear c24
                    try clear c24b0
                    try clear c25
                    try clear c25b0
                    try clear c26
                    try clear c36
                    try clear c36b0
                    try clear z15_0 z15_1 z15_2 y15_0 y15_1 y15_2
                    try clear hx201_0
                    try clear p2
                    try clear p20
                    try clear p201
                    try clear p6
                    try clear q2
                    try clear q20
                    try clear q201
                    obtain ⟨x15_3, x184002_3, u184002, rfl, HA, HK3, HO_11, HO_184000, HO_184001, HO_184002, BK174, BK183, HB⟩ := hrel
                    cases gk with
                    | zero => exact absurd HA.out (by simp [spec_StackState.l3])
                    | succ k3 =>
                      have H := HA.out
                      clear HA
                      simp only [spec_StackState.l3] at H
                      by_cases c38 : x15_3 < (x11_1.length : Int)
                      · rw [if_pos c38] at H
                        have c38b0 : decide (x15_3 < (x11_1.length : Int)) = true := decide_eq_true c38
                        clear c38
                        by_cases c39 : 0 ≤ x14_2
                        · rw [if_pos c39] at H
                          have c39b0 : decide (0 ≤ x14_2) = true := decide_eq_true c39
                          clear c39
                          by_cases c40 : x14_2 < (x11_1.length : Int)
                          · rw [if_pos c40] at H
                            have c40b0 : decide (x14_2 < (x11_1.length : Int)) = true := decide_eq_true c40
                            clear c40
                            by_cases c41 : 0 ≤ x15_3
                            · rw [if_pos c41] at H
                              have c41b0 : decide (0 ≤ x15_3) = true := decide_eq_true c41
                              clear c41
                              have HC42 := Aside0.mk H
                              clear H
                              try go_wp2
                              replace HO_11 := Aside0.mk (Kd.R_drew HO_11.out)
                              replace HO_184000 := Aside0.mk (Kd.R_drew HO_184000.out)
                              replace HO_184001 := Aside0.mk (Kd.S_drew HO_184001.out)
                              replace HO_184002 := Aside0.mk (Kd.R_drew HO_184002.out)
                              replace BK174 := Aside0.mk (blk_drew BK174.out)
                              replace BK183 := Aside0.mk (blk_drew BK183.out)
                              replace HB := Aside0.mk (below_drew1 HB.out)
                              have p205 : 0 ≤ (x14_2 : Int) := od
                              have q205 : x14_2 < (x11_1.length : Int) := od
                              obtain ⟨ad205, e205, hx205_0⟩ := Kd.at_int (Kd.R_reads' HO_11.out).2.2 x14_2 p205 q205
                              cases e205
                              replace p205 := eq_true p205
                              replace q205 := eq_true q205
                              have p206 : 0 ≤ (x15_3 : Int) := od
                              have q206 : x15_3 < (x11_1.length : Int) := od
                              obtain ⟨ad206, e206, hx206_0⟩ := Kd.at_int (Kd.R_reads' HO_11.out).2.2 x15_3 p206 q206
                              obtain rfl : ad205 = ad206 := (by injection e206)
                              replace p206 := eq_true p206
                              replace q206 := eq_true q206
                              refine start_ (n := 9) (S := fun w' => w'.cell? (ad205.add (x14_2).toNat) = some (.int .i64 (rd x11_1 x14_2)) ∧ w'.cell? (ad205.add (x15_3).toNat) = some (.int .i64 (rd x11_1 x15_3))) (ds := []) #[false, false, false, false, false, false, false, false, false] (by kernel_rfl) rfl rfl ⟨hx205_0, hx206_0⟩ (fun hHeld => ?_); refine with_tabW spec_StackState.tab23 spec_StackState.bits23 (fun HT_ HW_ => ?_)
                              generalize wr.drew = w43 at HO_11 HO_184000 HO_184001 HO_184002 BK174 BK183 HB hx205_0 hx206_0 hHeld ⊢
                              refine pure_ (i := 0) (N := some 83) (v := ?_) (a' := ?_) #[true, false, false, false, false, false, false, false, false] rfl rfl (any_of HT_.out (by kernel_rfl)) (fun _ _ _ h => h) (Or.inl ⟨by rfl, ?_⟩) ?_ ?_
                              rotate_left
                              · intro w'
                                go_simp
                                with_reducible rfl
                              rotate_left
                              · simp only [Act.put, List.setIfInBounds_toArray, List.set_cons_zero, List.set_cons_succ, i64_w, i32_w]
                                rfl
                              refine pure_ (i := 1) (N := some 84) (v := ?_) (a' := ?_) #[true, true, false, false, false, false, false, false, false] rfl rfl (any_of HT_.out (by kernel_rfl)) (fun _ _ _ h => h) (Or.inl ⟨by rfl, ?_⟩) ?_ ?_
                              rotate_left
                              · intro w'
                                go_simp
                                with_reducible rfl
                              rotate_left
                              · simp only [Act.put, List.setIfInBounds_toArray, List.set_cons_zero, List.set_cons_succ, i64_w, i32_w]
                                rfl
                              refine pure_ (i := 2) (N := some 85) (v := ?_) (a' := ?_) #[true, true, true, false, false, false, false, false, false] rfl rfl (any_of HT_.out (by kernel_rfl)) (fun _ _ _ h => h) (Or.inl ⟨by rfl, ?_⟩) ?_ ?_
                              rotate_left
                              · intro w'
                                go_simp
                                with_reducible rfl
                              rotate_left
                              · simp only [Act.put, List.setIfInBounds_toArray, List.set_cons_zero, List.set_cons_succ, i64_w, i32_w]
                                rfl
                              refine pure_ (i := 4) (N := some 87) (v := ?_) (a' := ?_) #[true, true, true, false, true, false, false, false, false] rfl rfl (any_of HT_.out (by kernel_rfl)) (fun _ _ _ h => h) (Or.inl ⟨by rfl, ?_⟩) ?_ ?_
                              rotate_left
                              · intro w'
                                go_simp
                                with_reducible rfl
                              rotate_left
                              · simp only [Act.put, List.setIfInBounds_toArray, List.set_cons_zero, List.set_cons_succ, i64_w, i32_w]
                                rfl
                              refine pure_ (i := 5) (N := some 88) (v := ?_) (a' := ?_) #[true, true, true, false, true, true, false, false, false] rfl rfl (any_of HT_.out (by kernel_rfl)) (fun _ _ _ h => h) (Or.inl ⟨by rfl, ?_⟩) ?_ ?_
                              rotate_left
                              · intro w'
                                go_simp
                                with_reducible rfl
                              rotate_left
                              · simp only [Act.put, List.setIfInBounds_toArray, List.set_cons_zero, List.set_cons_succ, i64_w, i32_w]
                                rfl
                              refine pure_ (i := 6) (N := some 89) (v := ?_) (a' := ?_) #[true, true, true, false, true, true, true, false, false] rfl rfl (any_of HT_.out (by kernel_rfl)) (fun _ _ _ h => h) (Or.inl ⟨by rfl, ?_⟩) ?_ ?_
                              rotate_left
                              · intro w'
                                go_simp
                                with_reducible rfl
                              rotate_left
                              · simp only [Act.put, List.setIfInBounds_toArray, List.set_cons_zero, List.set_cons_succ, i64_w, i32_w]
                                rfl
                              refine take_ (i := 3) (N := some 86) (v := ?_) (a' := ?_) #[true, true, true, true, true, true, true, false, false] rfl rfl (take_ofW HT_.out HW_.out (by kernel_rfl)) (fun _ _ _ h => h) (Or.inl ⟨by rfl, ?_⟩) hHeld ?_ ?_
                              rotate_left
                              · rintro w' ⟨s0, s1⟩
                                go_simp
                                with_reducible rfl
                              rotate_left
                              · simp only [Act.put, List.setIfInBounds_toArray, List.set_cons_zero, List.set_cons_succ, i64_w, i32_w]
                                rfl
                              refine take_ (i := 7) (N := some 90) (v := ?_) (a' := ?_) #[true, true, true, true, true, true, true, true, false] rfl rfl (take_ofW HT_.out HW_.out (by kernel_rfl)) (fun _ _ _ h => h) (Or.inl ⟨by rfl, ?_⟩) hHeld ?_ ?_
                              rotate_left
                              · rintro w' ⟨s0, s1⟩
                                go_simp
                                with_reducible rfl
                              rotate_left
                              · simp only [Act.put, List.setIfInBounds_toArray, List.set_cons_zero, List.set_cons_succ, i64_w, i32_w]
                                rfl
                              refine pure_ (i := 8) (N := some 91) (v := ?_) (a' := ?_) #[true, true, true, true, true, true, true, true, true] rfl rfl (any_of HT_.out (by kernel_rfl)) (fun _ _ _ h => h) (Or.inl ⟨by rfl, ?_⟩) ?_ ?_
                              rotate_left
                              · intro w'
                                go_simp
                                with_reducible rfl
                              rotate_left
                              · simp only [Act.put, List.setIfInBounds_toArray, List.set_cons_zero, List.set_cons_succ, i64_w, i32_w]
                                rfl
                              refine done_ (done_of HT_.out (by kernel_rfl)) ?_
                              go_upto_if 91 with (fail)
                              go_cut [16] (fun v16 wc => ∃ (kq : Nat) (x16_41 : Int), v16 = .int .i64 x16_41 ∧ Aside0 (spec_StackState.j4 kq x11_1 x14_2 x15_3 x16_41 t180 x184001_1 x184002_3 = some (r1, r2, r3, r4)) ∧ Aside0 (kq ≤ k3) ∧ Aside0 (Kd.R (Kd.int .i64) 2 wc w.heap.size (fun k_ => some k_ ≠ (u184002 : Value).ownBlock) (.slice (some ad205) x11_1.length co37) x11_1) ∧ Aside0 (Kd.R k130 130 wc w.heap.size (fun _ => True) (.slice Ao12 t180.length co12) t180) ∧ Aside0 (Kd.S k121 121 wc w.heap.size (fun k_ => some k_ ≠ ((.slice Ao12 t180.length co12) : Value).ownBlock) u184001 x184001_1) ∧ Aside0 (Kd.R (Kd.int .i64) 2 wc w.heap.size (fun k_ => some k_ ≠ ((.slice (some ad205) x11_1.length co37) : Value).ownBlock) u184002 x184002_3) ∧ Aside0 (wc.heap[gb174]? = some (.cells #[(.slice none 0 0), (.slice none 0 0), (.slice none 0 0)] 65 (0, 0))) ∧ Aside0 (wc.heap[gb183]? = some (.cells #[(.slice Ao12 t180.length co12), u184001, u184002] 65 (0, 0))) ∧ Aside0 (Below w.heap.size w wc))
                              case first =>
                                have H := HC42.out
                                clear HC42
                                by_cases c44 : (rd x11_1 x14_2) > (rd x11_1 x15_3)
                                · rw [if_pos c44] at H
                                  have c44b0 : decide ((rd x11_1 x15_3) < (rd x11_1 x14_2)) = true := decide_eq_true c44
                                  clear c44
                                  (first | rw [c44b0] | (simp only [i64_w, i32_w]; rw [c44b0]) | skip)
                                  have H' := Aside0.mk H
                                  clear H
                                  go_wp2
                                  go_meet
                                  case rel => exact ⟨_, (1), (by first | rfl | (simp; done) | (simp [*]; done)), H', ⟨by have := HK1.out; have := HK2.out; have := HK3.out; first | omega | exact Nat.le_refl _⟩, ⟨by refine ra (h := ?_); exact HO_11.out⟩, ⟨by refine ra (h := ?_); exact HO_184000.out⟩, ⟨by (with_reducible repeat (first | apply Kd.S_alloc | apply Kd.S_drewN | apply Kd.S_drew)); exact HO_184001.out⟩, ⟨by refine ra (h := ?_); exact HO_184002.out⟩, ⟨by refine bk (h := ?_); exact BK174.out⟩, ⟨by refine bk (h := ?_); exact BK183.out⟩, ⟨bw⟩⟩
                                · rw [if_neg c44] at H
                                  have c44b0 : decide ((rd x11_1 x15_3) < (rd x11_1 x14_2)) = false := decide_eq_false c44
                                  clear c44
                                  (first | rw [c44b0] | (simp only [i64_w, i32_w]; rw [c44b0]) | skip)
                                  have H' := Aside0.mk H
                                  clear H
                                  go_wp2
                                  go_meet
                                  case rel => exact ⟨_, (0), (by first | rfl | (simp; done) | (simp [*]; done)), H', ⟨by have := HK1.out; have := HK2.out; have := HK3.out; first | omega | exact Nat.le_refl _⟩, ⟨by refine ra (h := ?_); exact HO_11.out⟩, ⟨by refine ra (h := ?_); exact HO_184000.out⟩, ⟨by (with_reducible repeat (first | apply Kd.S_alloc | apply Kd.S_drewN | apply Kd.S_drew)); exact HO_184001.out⟩, ⟨by refine ra (h := ?_); exact HO_184002.out⟩, ⟨by refine bk (h := ?_); exact BK174.out⟩, ⟨by refine bk (h := ?_); exact BK183.out⟩, ⟨bw⟩⟩
                              case rest =>
                                clear HC42
                                try clear c1
                                try clear c2
                                try clear p2
                                try clear q2
                                try clear hx2
                                try clear c3
                                try clear c4
                                try clear c5
                                try clear p6
                                try clear c7
                                try clear c8
                                try clear c9
                                try clear c14
                                try clear c18
                                try clear c18b0
                                try clear c19
                                try clear c19b0
                                try clear p20
                                try clear q20
                                try clear hx20
                                try clear c22
                                try clear c24
                                try clear c24b0
                                try clear c25
                                try clear c25b0
                                try clear c26
                                try clear c36
                                try clear c36b0
                                try clear c38
                                try clear c38b0
                                try clear c39
                                try clear c39b0
                                try clear c40
                                try clear c40b0
                                try clear c41
                                try clear c41b0
                                try clear c44
                                try clear c44b0
                                try clear z15_0 z15_1 z15_2 y15_0 y15_1 y15_2
                                try clear hx201_0
                                try clear hx205_0
                                try clear hx206_0
                                try clear p2
                                try clear p20
                                try clear p201
                                try clear p205
                                try clear p206
                                try clear p6
                                try clear q2
                                try clear q20
                                try clear q201
                                try clear q205
                                try clear q206
                                obtain ⟨kq, x16_41, rfl, HA, HJ41, HO_11, HO_184000, HO_184001, HO_184002, BK174, BK183, HB⟩ := hcut
                                cases kq with
                                | zero => exact absurd HA.out (by simp [spec_StackState.j4])
                                | succ kj41 =>
                                  have H := HA.out
                                  clear HA
                                  simp only [spec_StackState.j4] at H
                                  by_cases c45 : 0 ≤ x14_2
                                  · rw [if_pos c45] at H
                                    have c45b0 : decide (0 ≤ x14_2) = true := decide_eq_true c45
                                    clear c45
                                    by_cases c46 : x14_2 < (x11_1.length : Int)
                                    · rw [if_pos c46] at H
                                      have c46b0 : decide (x14_2 < (x11_1.length : Int)) = true := decide_eq_true c46
                                      clear c46
                                      by_cases c47 : 0 ≤ x15_3
                                      · rw [if_pos c47] at H
                                        have c47b0 : decide (0 ≤ x15_3) = true := decide_eq_true c47
                                        clear c47
                                        by_cases c48 : x15_3 < (x11_1.length : Int)
                                        · rw [if_pos c48] at H
                                          have c48b0 : decide (x15_3 < (x11_1.length : Int)) = true := decide_eq_true c48
                                          clear c48
                                          by_cases c49 : (rd x11_1 x14_2) < (rd x11_1 x15_3)
                                          · rw [if_pos c49] at H
                                            have c49b0 : decide ((rd x11_1 x14_2) < (rd x11_1 x15_3)) = true := decide_eq_true c49
                                            clear c49
                                            by_cases c50 : x184002_3.length < 17592186044416
                                            · rw [if_pos c50] at H
                                              have LMc50 := Aside0.mk c50
                                              clear c50
                                              obtain ⟨y209, hy209⟩ : ∃ y_ : List Int, y_ = (x184002_3 ++ [(-1)]) := ⟨_, rfl⟩
                                              replace H : (spec_StackState.l3 kj41 x11_1 x14_2 (wrap64 (x15_3 + 1)) t180 x184001_1 y209) = some (r1, r2, r3, r4) := by first | (rw [hy209]; with_reducible exact H) | (have H2_ := (Option.bind_some _ _).symm.trans H; rw [hy209]; with_reducible exact H2_) | (have H2_ := (Option.bind_some _ _).symm.trans H; with_reducible exact H2_) | with_reducible exact H | (rw [hy209]; exact H) | exact H
                                              have Ny209 := Aside0.mk hy209
                                              clear hy209
                                              have H' := Aside0.mk H
                                              clear H
                                              try go_wp2
                                              replace HO_11 := Aside0.mk (Kd.R_drew HO_11.out)
                                              replace HO_184000 := Aside0.mk (Kd.R_drew HO_184000.out)
                                              replace HO_184001 := Aside0.mk (Kd.S_drew HO_184001.out)
                                              replace HO_184002 := Aside0.mk (Kd.R_drew HO_184002.out)
                                              replace BK174 := Aside0.mk (blk_drew BK174.out)
                                              replace BK183 := Aside0.mk (blk_drew BK183.out)
                                              replace HB := Aside0.mk (below_drew1 HB.out)
                                              have p207 : 0 ≤ (x14_2 : Int) := od
                                              have q207 : x14_2 < (x11_1.length : Int) := od
                                              obtain ⟨ad207, e207, hx207_0⟩ := Kd.at_int (Kd.R_reads' HO_11.out).2.2 x14_2 p207 q207
                                              obtain rfl : ad205 = ad207 := (by injection e207)
                                              replace p207 := eq_true p207
                                              replace q207 := eq_true q207
                                              have p208 : 0 ≤ (x15_3 : Int) := od
                                              have q208 : x15_3 < (x11_1.length : Int) := od
                                              obtain ⟨ad208, e208, hx208_0⟩ := Kd.at_int (Kd.R_reads' HO_11.out).2.2 x15_3 p208 q208
                                              obtain rfl : ad205 = ad208 := (by injection e208)
                                              replace p208 := eq_true p208
                                              replace q208 := eq_true q208
                                              refine start_ (n := 9) (S := fun w' => w'.cell? (ad205.add (x14_2).toNat) = some (.int .i64 (rd x11_1 x14_2)) ∧ w'.cell? (ad205.add (x15_3).toNat) = some (.int .i64 (rd x11_1 x15_3))) (ds := []) #[false, false, false, false, false, false, false, false, false] (by kernel_rfl) rfl rfl ⟨hx207_0, hx208_0⟩ (fun hHeld => ?_); refine with_tabW spec_StackState.tab25 spec_StackState.bits25 (fun HT_ HW_ => ?_)
                                              generalize wc.drew = w51 at HO_11 HO_184000 HO_184001 HO_184002 BK174 BK183 HB hx207_0 hx208_0 hHeld ⊢
                                              refine pure_ (i := 0) (N := some 92) (v := ?_) (a' := ?_) #[true, false, false, false, false, false, false, false, false] rfl rfl (any_of HT_.out (by kernel_rfl)) (fun _ _ _ h => h) (Or.inl ⟨by rfl, ?_⟩) ?_ ?_
                                              rotate_left
                                              · intro w'
                                                go_simp
                                                with_reducible rfl
                                              rotate_left
                                              · simp only [Act.put, List.setIfInBounds_toArray, List.set_cons_zero, List.set_cons_succ, i64_w, i32_w]
                                                rfl
                                              refine pure_ (i := 1) (N := some 93) (v := ?_) (a' := ?_) #[true, true, false, false, false, false, false, false, false] rfl rfl (any_of HT_.out (by kernel_rfl)) (fun _ _ _ h => h) (Or.inl ⟨by rfl, ?_⟩) ?_ ?_
                                              rotate_left
                                              · intro w'
                                                go_simp
                                                with_reducible rfl
                                              rotate_left
                                              · simp only [Act.put, List.setIfInBounds_toArray, List.set_cons_zero, List.set_cons_succ, i64_w, i32_w]
                                                rfl
                                              refine pure_ (i := 2) (N := some 94) (v := ?_) (a' := ?_) #[true, true, true, false, false, false, false, false, false] rfl rfl (any_of HT_.out (by kernel_rfl)) (fun _ _ _ h => h) (Or.inl ⟨by rfl, ?_⟩) ?_ ?_
                                              rotate_left
                                              · intro w'
                                                go_simp
                                                with_reducible rfl
                                              rotate_left
                                              · simp only [Act.put, List.setIfInBounds_toArray, List.set_cons_zero, List.set_cons_succ, i64_w, i32_w]
                                                rfl
                                              refine pure_ (i := 4) (N := some 96) (v := ?_) (a' := ?_) #[true, true, true, false, true, false, false, false, false] rfl rfl (any_of HT_.out (by kernel_rfl)) (fun _ _ _ h => h) (Or.inl ⟨by rfl, ?_⟩) ?_ ?_
                                              rotate_left
                                              · intro w'
                                                go_simp
                                                with_reducible rfl
                                              rotate_left
                                              · simp only [Act.put, List.setIfInBounds_toArray, List.set_cons_zero, List.set_cons_succ, i64_w, i32_w]
                                                rfl
                                              refine pure_ (i := 5) (N := some 97) (v := ?_) (a' := ?_) #[true, true, true, false, true, true, false, false, false] rfl rfl (any_of HT_.out (by kernel_rfl)) (fun _ _ _ h => h) (Or.inl ⟨by rfl, ?_⟩) ?_ ?_
                                              rotate_left
                                              · intro w'
                                                go_simp
                                                with_reducible rfl
                                              rotate_left
                                              · simp only [Act.put, List.setIfInBounds_toArray, List.set_cons_zero, List.set_cons_succ, i64_w, i32_w]
                                                rfl
                                              refine pure_ (i := 6) (N := some 98) (v := ?_) (a' := ?_) #[true, true, true, false, true, true, true, false, false] rfl rfl (any_of HT_.out (by kernel_rfl)) (fun _ _ _ h => h) (Or.inl ⟨by rfl, ?_⟩) ?_ ?_
                                              rotate_left
                                              · intro w'
                                                go_simp
                                                with_reducible rfl
                                              rotate_left
                                              · simp only [Act.put, List.setIfInBounds_toArray, List.set_cons_zero, List.set_cons_succ, i64_w, i32_w]
                                                rfl
                                              refine take_ (i := 3) (N := some 95) (v := ?_) (a' := ?_) #[true, true, true, true, true, true, true, false, false] rfl rfl (take_ofW HT_.out HW_.out (by kernel_rfl)) (fun _ _ _ h => h) (Or.inl ⟨by rfl, ?_⟩) hHeld ?_ ?_
                                              rotate_left
                                              · rintro w' ⟨s0, s1⟩
                                                go_simp
                                                with_reducible rfl
                                              rotate_left
                                              · simp only [Act.put, List.setIfInBounds_toArray, List.set_cons_zero, List.set_cons_succ, i64_w, i32_w]
                                                rfl
                                              refine take_ (i := 7) (N := some 99) (v := ?_) (a' := ?_) #[true, true, true, true, true, true, true, true, false] rfl rfl (take_ofW HT_.out HW_.out (by kernel_rfl)) (fun _ _ _ h => h) (Or.inl ⟨by rfl, ?_⟩) hHeld ?_ ?_
                                              rotate_left
                                              · rintro w' ⟨s0, s1⟩
                                                go_simp
                                                with_reducible rfl
                                              rotate_left
                                              · simp only [Act.put, List.setIfInBounds_toArray, List.set_cons_zero, List.set_cons_succ, i64_w, i32_w]
                                                rfl
                                              refine pure_ (i := 8) (N := some 100) (v := ?_) (a' := ?_) #[true, true, true, true, true, true, true, true, true] rfl rfl (any_of HT_.out (by kernel_rfl)) (fun _ _ _ h => h) (Or.inl ⟨by rfl, ?_⟩) ?_ ?_
                                              rotate_left
                                              · intro w'
                                                go_simp
                                                with_reducible rfl
                                              rotate_left
                                              · simp only [Act.put, List.setIfInBounds_toArray, List.set_cons_zero, List.set_cons_succ, i64_w, i32_w]
                                                rfl
                                              refine done_ (done_of HT_.out (by kernel_rfl)) ?_
                                              have hnb52 := NB183_174.out
                                              have hnc52 := NB174_183.out
                                              obtain ⟨z53_0, z53_1, z53_2, y53_0, y53_1, y53_2⟩ := bq3 BK183
                                              try go_wp2_with (first | ((with_reducible refine gate_builtin (b := .append) (xs := #[.tmp 102, .tmp 104]) rfl ?_); at_builtin; refine Kd.R_append (Kd.int .i64) (w0 := w) w.heap.size rfl (.tmp 102) (.tmp 104) 24 2 (.int .i64 0) 8 rfl Try.underlying24 info2 rfl (by decide) (by omega) u184002 x184002_3 (-1) [.int .i64 (-1)] (fun k_ => some k_ ≠ (.slice (some ad205) x11_1.length co37 : Value).ownBlock) (fun _ => False) rfl rfl ?aP (fun _ hk => hk.elim) ?aF ?aO ?aB ?aS ?aL ?_; (case aP => exact rfl); (case aB => exact bw); (case aF => exact (fun k_ hk => Kd.fresh' (Kd.R_lt (ra (h := HO_11.out))) k_ hk)); (case aO => exact (ra (h := HO_184002.out))); (case aS => exact (below_size bw)); (case aL => have := LMc50.out; omega); intro v210 w54 ho hb hg hat; rw [← Ny209.out] at ho; have HO211 := Aside0.mk (ho); replace HO_11 := Aside0.mk (Kd.R_after (ok := (fun _ => True)) (by refine ra (h := ?_); exact Kd.R_mono HO_11.out (fun _ hk => ⟨trivial, hk⟩)) hg hat); replace HO_184000 := Aside0.mk (Kd.R_over' (ra (h := HO_184000.out)) (Kd.R_typed (ra (h := HO_184002.out))) (by decide) hg); replace HO_184001 := Aside0.mk (Kd.S_over' (by (with_reducible repeat (first | apply Kd.S_alloc | apply Kd.S_drewN | apply Kd.S_drew)); exact HO_184001.out) (Kd.R_typed (ra (h := HO_184002.out))) (by decide) hg); replace BK174 := Aside0.mk (blk_grown (g := gb174) (o := .cells #[.slice none 0 0, .slice none 0 0, .slice none 0 0] 65 (0, 0)) (by refine bk (h := ?_); exact BK174.out) hg (Kd.R_ne HO_184002.out BK174.out (by decide))); replace BK183 := Aside0.mk (blk_grown (g := gb183) (o := .cells #[.slice Ao12 t180.length co12, u184001, u184002] 65 (0, 0)) (by refine bk (h := ?_); exact BK183.out) hg (Kd.R_ne HO_184002.out BK183.out (by decide))); replace HB := Aside0.mk (hb); clear HO_184002; clear ho hb hg hat; obtain ⟨Ao55, co55, eo55⟩ := Kd.R_slice HO211.out; subst eo55; obtain ⟨z56_0, z56_1, z56_2, y56_0, y56_1, y56_2⟩ := bq3 BK183))
                                              go_roundg kj41
                                              case measure => have := HK1.out; have := HK2.out; have := HK3.out; have := HJ41.out; omega
                                              case rel => exact ⟨(wrap64 (x15_3 + 1)), (y209), (.slice Ao55 y209.length co55), (by first | rfl | (simp; done) | (simp [*]; done)), H', ⟨by have := HK1.out; have := HK2.out; have := HK3.out; have := HJ41.out; omega⟩, ⟨by refine ra (h := ?_); exact Kd.R_mono (Kd.R_far (p := ⟨gb183, 2, none⟩) (Kd.R_types HO_11.out BK183.out (by decide)) (fun _ hk => hk.2) (.slice Ao55 y209.length co55)) (fun _ hk => hk.1.2)⟩, ⟨by refine ra (h := ?_); exact Kd.R_mono (Kd.R_far (p := ⟨gb183, 2, none⟩) (Kd.R_types HO_184000.out BK183.out (by decide)) (fun _ hk => hk.2) (.slice Ao55 y209.length co55)) (fun _ hk => trivial)⟩, ⟨by (with_reducible repeat (first | apply Kd.S_alloc | apply Kd.S_drewN | apply Kd.S_drew)); exact Kd.S_mono (Kd.S_far (p := ⟨gb183, 2, none⟩) (Kd.S_types HO_184001.out BK183.out (by decide)) (fun _ hk => hk.2) (.slice Ao55 y209.length co55)) (fun _ hk => hk.1)⟩, ⟨by refine ra (h := ?_); exact Kd.R_mono (Kd.R_far (p := ⟨gb183, 2, none⟩) (Kd.R_types HO211.out BK183.out (by decide)) (fun _ hk => hk.2) (.slice Ao55 y209.length co55)) (fun _ hk => hk.1)⟩, ⟨by refine bk (h := ?_); refine blk_far ?_ NB174_183.out _; refine bk (h := ?_); exact BK174.out⟩, ⟨by refine bk (h := ?_); refine blk_put (cs := #[.slice Ao12 t180.length co12, u184001, u184002]) ?_ 2 _ rfl; refine bk (h := ?_); exact BK183.out⟩, ⟨bw⟩⟩
                                            · rw [if_neg c50] at H
                                              exact absurd H (by simp)
                                          · rw [if_neg c49] at H
                                            have c49b0 : decide ((rd x11_1 x14_2) < (rd x11_1 x15_3)) = false := decide_eq_false c49
                                            clear c49
                                            by_cases c57 : x184002_3.length < 17592186044416
                                            · rw [if_pos c57] at H
                                              have LMc57 := Aside0.mk c57
                                              clear c57
                                              obtain ⟨y212, hy212⟩ : ∃ y_ : List Int, y_ = (x184002_3 ++ [x16_41]) := ⟨_, rfl⟩
                                              replace H : (spec_StackState.l3 kj41 x11_1 x14_2 (wrap64 (x15_3 + 1)) t180 x184001_1 y212) = some (r1, r2, r3, r4) := by first | (rw [hy212]; with_reducible exact H) | (have H2_ := (Option.bind_some _ _).symm.trans H; rw [hy212]; with_reducible exact H2_) | (have H2_ := (Option.bind_some _ _).symm.trans H; with_reducible exact H2_) | with_reducible exact H | (rw [hy212]; exact H) | exact H
                                              have Ny212 := Aside0.mk hy212
                                              clear hy212
                                              have H' := Aside0.mk H
                                              clear H
                                              try go_wp2
                                              replace HO_11 := Aside0.mk (Kd.R_drew HO_11.out)
                                              replace HO_184000 := Aside0.mk (Kd.R_drew HO_184000.out)
                                              replace HO_184001 := Aside0.mk (Kd.S_drew HO_184001.out)
                                              replace HO_184002 := Aside0.mk (Kd.R_drew HO_184002.out)
                                              replace BK174 := Aside0.mk (blk_drew BK174.out)
                                              replace BK183 := Aside0.mk (blk_drew BK183.out)
                                              replace HB := Aside0.mk (below_drew1 HB.out)
                                              have p207 : 0 ≤ (x14_2 : Int) := od
                                              have q207 : x14_2 < (x11_1.length : Int) := od
                                              obtain ⟨ad207, e207, hx207_0⟩ := Kd.at_int (Kd.R_reads' HO_11.out).2.2 x14_2 p207 q207
                                              obtain rfl : ad205 = ad207 := (by injection e207)
                                              replace p207 := eq_true p207
                                              replace q207 := eq_true q207
                                              have p208 : 0 ≤ (x15_3 : Int) := od
                                              have q208 : x15_3 < (x11_1.length : Int) := od
                                              obtain ⟨ad208, e208, hx208_0⟩ := Kd.at_int (Kd.R_reads' HO_11.out).2.2 x15_3 p208 q208
                                              obtain rfl : ad205 = ad208 := (by injection e208)
                                              replace p208 := eq_true p208
                                              replace q208 := eq_true q208
                                              refine start_ (n := 9) (S := fun w' => w'.cell? (ad205.add (x14_2).toNat) = some (.int .i64 (rd x11_1 x14_2)) ∧ w'.cell? (ad205.add (x15_3).toNat) = some (.int .i64 (rd x11_1 x15_3))) (ds := []) #[false, false, false, false, false, false, false, false, false] (by kernel_rfl) rfl rfl ⟨hx207_0, hx208_0⟩ (fun hHeld => ?_); refine with_tabW spec_StackState.tab25 spec_StackState.bits25 (fun HT_ HW_ => ?_)
                                              generalize wc.drew = w58 at HO_11 HO_184000 HO_184001 HO_184002 BK174 BK183 HB hx207_0 hx208_0 hHeld ⊢
                                              refine pure_ (i := 0) (N := some 92) (v := ?_) (a' := ?_) #[true, false, false, false, false, false, false, false, false] rfl rfl (any_of HT_.out (by kernel_rfl)) (fun _ _ _ h => h) (Or.inl ⟨by rfl, ?_⟩) ?_ ?_
                                              rotate_left
                                              · intro w'
                                                go_simp
                                                with_reducible rfl
                                              rotate_left
                                              · simp only [Act.put, List.setIfInBounds_toArray, List.set_cons_zero, List.set_cons_succ, i64_w, i32_w]
                                                rfl
                                              refine pure_ (i := 1) (N := some 93) (v := ?_) (a' := ?_) #[true, true, false, false, false, false, false, false, false] rfl rfl (any_of HT_.out (by kernel_rfl)) (fun _ _ _ h => h) (Or.inl ⟨by rfl, ?_⟩) ?_ ?_
                                              rotate_left
                                              · intro w'
                                                go_simp
                                                with_reducible rfl
                                              rotate_left
                                              · simp only [Act.put, List.setIfInBounds_toArray, List.set_cons_zero, List.set_cons_succ, i64_w, i32_w]
                                                rfl
                                              refine pure_ (i := 2) (N := some 94) (v := ?_) (a' := ?_) #[true, true, true, false, false, false, false, false, false] rfl rfl (any_of HT_.out (by kernel_rfl)) (fun _ _ _ h => h) (Or.inl ⟨by rfl, ?_⟩) ?_ ?_
                                              rotate_left
                                              · intro w'
                                                go_simp
                                                with_reducible rfl
                                              rotate_left
                                              · simp only [Act.put, List.setIfInBounds_toArray, List.set_cons_zero, List.set_cons_succ, i64_w, i32_w]
                                                rfl
                                              refine pure_ (i := 4) (N := some 96) (v := ?_) (a' := ?_) #[true, true, true, false, true, false, false, false, false] rfl rfl (any_of HT_.out (by kernel_rfl)) (fun _ _ _ h => h) (Or.inl ⟨by rfl, ?_⟩) ?_ ?_
                                              rotate_left
                                              · intro w'
                                                go_simp
                                                with_reducible rfl
                                              rotate_left
                                              · simp only [Act.put, List.setIfInBounds_toArray, List.set_cons_zero, List.set_cons_succ, i64_w, i32_w]
                                                rfl
                                              refine pure_ (i := 5) (N := some 97) (v := ?_) (a' := ?_) #[true, true, true, false, true, true, false, false, false] rfl rfl (any_of HT_.out (by kernel_rfl)) (fun _ _ _ h => h) (Or.inl ⟨by rfl, ?_⟩) ?_ ?_
                                              rotate_left
                                              · intro w'
                                                go_simp
                                                with_reducible rfl
                                              rotate_left
                                              · simp only [Act.put, List.setIfInBounds_toArray, List.set_cons_zero, List.set_cons_succ, i64_w, i32_w]
                                                rfl
                                              refine pure_ (i := 6) (N := some 98) (v := ?_) (a' := ?_) #[true, true, true, false, true, true, true, false, false] rfl rfl (any_of HT_.out (by kernel_rfl)) (fun _ _ _ h => h) (Or.inl ⟨by rfl, ?_⟩) ?_ ?_
                                              rotate_left
                                              · intro w'
                                                go_simp
                                                with_reducible rfl
                                              rotate_left
                                              · simp only [Act.put, List.setIfInBounds_toArray, List.set_cons_zero, List.set_cons_succ, i64_w, i32_w]
                                                rfl
                                              refine take_ (i := 3) (N := some 95) (v := ?_) (a' := ?_) #[true, true, true, true, true, true, true, false, false] rfl rfl (take_ofW HT_.out HW_.out (by kernel_rfl)) (fun _ _ _ h => h) (Or.inl ⟨by rfl, ?_⟩) hHeld ?_ ?_
                                              rotate_left
                                              · rintro w' ⟨s0, s1⟩
                                                go_simp
                                                with_reducible rfl
                                              rotate_left
                                              · simp only [Act.put, List.setIfInBounds_toArray, List.set_cons_zero, List.set_cons_succ, i64_w, i32_w]
                                                rfl
                                              refine take_ (i := 7) (N := some 99) (v := ?_) (a' := ?_) #[true, true, true, true, true, true, true, true, false] rfl rfl (take_ofW HT_.out HW_.out (by kernel_rfl)) (fun _ _ _ h => h) (Or.inl ⟨by rfl, ?_⟩) hHeld ?_ ?_
                                              rotate_left
                                              · rintro w' ⟨s0, s1⟩
                                                go_simp
                                                with_reducible rfl
                                              rotate_left
                                              · simp only [Act.put, List.setIfInBounds_toArray, List.set_cons_zero, List.set_cons_succ, i64_w, i32_w]
                                                rfl
                                              refine pure_ (i := 8) (N := some 100) (v := ?_) (a' := ?_) #[true, true, true, true, true, true, true, true, true] rfl rfl (any_of HT_.out (by kernel_rfl)) (fun _ _ _ h => h) (Or.inl ⟨by rfl, ?_⟩) ?_ ?_
                                              rotate_left
                                              · intro w'
                                                go_simp
                                                with_reducible rfl
                                              rotate_left
                                              · simp only [Act.put, List.setIfInBounds_toArray, List.set_cons_zero, List.set_cons_succ, i64_w, i32_w]
                                                rfl
                                              refine done_ (done_of HT_.out (by kernel_rfl)) ?_
                                              have hnb59 := NB183_174.out
                                              have hnc59 := NB174_183.out
                                              obtain ⟨z60_0, z60_1, z60_2, y60_0, y60_1, y60_2⟩ := bq3 BK183
                                              try go_wp2_with (first | ((with_reducible refine gate_builtin (b := .append) (xs := #[.tmp 102, .tmp 104]) rfl ?_); at_builtin; refine Kd.R_append (Kd.int .i64) (w0 := w) w.heap.size rfl (.tmp 102) (.tmp 104) 24 2 (.int .i64 0) 8 rfl Try.underlying24 info2 rfl (by decide) (by omega) u184002 x184002_3 x16_41 [.int .i64 x16_41] (fun k_ => some k_ ≠ (.slice (some ad205) x11_1.length co37 : Value).ownBlock) (fun _ => False) rfl rfl ?aP (fun _ hk => hk.elim) ?aF ?aO ?aB ?aS ?aL ?_; (case aP => exact rfl); (case aB => exact bw); (case aF => exact (fun k_ hk => Kd.fresh' (Kd.R_lt (ra (h := HO_11.out))) k_ hk)); (case aO => exact (ra (h := HO_184002.out))); (case aS => exact (below_size bw)); (case aL => have := LMc57.out; omega); intro v213 w61 ho hb hg hat; rw [← Ny212.out] at ho; have HO214 := Aside0.mk (ho); replace HO_11 := Aside0.mk (Kd.R_after (ok := (fun _ => True)) (by refine ra (h := ?_); exact Kd.R_mono HO_11.out (fun _ hk => ⟨trivial, hk⟩)) hg hat); replace HO_184000 := Aside0.mk (Kd.R_over' (ra (h := HO_184000.out)) (Kd.R_typed (ra (h := HO_184002.out))) (by decide) hg); replace HO_184001 := Aside0.mk (Kd.S_over' (by (with_reducible repeat (first | apply Kd.S_alloc | apply Kd.S_drewN | apply Kd.S_drew)); exact HO_184001.out) (Kd.R_typed (ra (h := HO_184002.out))) (by decide) hg); replace BK174 := Aside0.mk (blk_grown (g := gb174) (o := .cells #[.slice none 0 0, .slice none 0 0, .slice none 0 0] 65 (0, 0)) (by refine bk (h := ?_); exact BK174.out) hg (Kd.R_ne HO_184002.out BK174.out (by decide))); replace BK183 := Aside0.mk (blk_grown (g := gb183) (o := .cells #[.slice Ao12 t180.length co12, u184001, u184002] 65 (0, 0)) (by refine bk (h := ?_); exact BK183.out) hg (Kd.R_ne HO_184002.out BK183.out (by decide))); replace HB := Aside0.mk (hb); clear HO_184002; clear ho hb hg hat; obtain ⟨Ao62, co62, eo62⟩ := Kd.R_slice HO214.out; subst eo62; obtain ⟨z63_0, z63_1, z63_2, y63_0, y63_1, y63_2⟩ := bq3 BK183))
                                              go_roundg kj41
                                              case measure => have := HK1.out; have := HK2.out; have := HK3.out; have := HJ41.out; omega
                                              case rel => exact ⟨(wrap64 (x15_3 + 1)), (y212), (.slice Ao62 y212.length co62), (by first | rfl | (simp; done) | (simp [*]; done)), H', ⟨by have := HK1.out; have := HK2.out; have := HK3.out; have := HJ41.out; omega⟩, ⟨by refine ra (h := ?_); exact Kd.R_mono (Kd.R_far (p := ⟨gb183, 2, none⟩) (Kd.R_types HO_11.out BK183.out (by decide)) (fun _ hk => hk.2) (.slice Ao62 y212.length co62)) (fun _ hk => hk.1.2)⟩, ⟨by refine ra (h := ?_); exact Kd.R_mono (Kd.R_far (p := ⟨gb183, 2, none⟩) (Kd.R_types HO_184000.out BK183.out (by decide)) (fun _ hk => hk.2) (.slice Ao62 y212.length co62)) (fun _ hk => trivial)⟩, ⟨by (with_reducible repeat (first | apply Kd.S_alloc | apply Kd.S_drewN | apply Kd.S_drew)); exact Kd.S_mono (Kd.S_far (p := ⟨gb183, 2, none⟩) (Kd.S_types HO_184001.out BK183.out (by decide)) (fun _ hk => hk.2) (.slice Ao62 y212.length co62)) (fun _ hk => hk.1)⟩, ⟨by refine ra (h := ?_); exact Kd.R_mono (Kd.R_far (p := ⟨gb183, 2, none⟩) (Kd.R_types HO214.out BK183.out (by decide)) (fun _ hk => hk.2) (.slice Ao62 y212.length co62)) (fun _ hk => hk.1)⟩, ⟨by refine bk (h := ?_); refine blk_far ?_ NB174_183.out _; refine bk (h := ?_); exact BK174.out⟩, ⟨by refine bk (h := ?_); refine blk_put (cs := #[.slice Ao12 t180.length co12, u184001, u184002]) ?_ 2 _ rfl; refine bk (h := ?_); exact BK183.out⟩, ⟨bw⟩⟩
                                            · rw [if_neg c57] at H
                                              exact absurd H (by simp)
                                        · rw [if_neg c48] at H
                                          exact absurd H (by simp)
                                      · rw [if_neg c47] at H
                                        exact absurd H (by simp)
                                    · rw [if_neg c46] at H
                                      exact absurd H (by simp)
                                  · rw [if_neg c45] at H
                                    exact absurd H (by simp)
                            · rw [if_neg c41] at H
                              exact absurd H (by simp)
                          · rw [if_neg c40] at H
                            exact absurd H (by simp)
                        · rw [if_neg c39] at H
                          exact absurd H (by simp)
                      · rw [if_neg c38] at H
                        have c38b0 : decide (x15_3 < (x11_1.length : Int)) = false := decide_eq_false c38
                        clear c38
                        have H' := Aside0.mk H
                        clear H
                        go_wp2
                        go_roundg k3
                        case measure => have := HK1.out; have := HK2.out; have := HK3.out; omega
                        case rel => exact ⟨(wrap64 (x14_2 + 1)), (x184002_3), (u184002), (by first | rfl | (simp; done) | (simp [*]; done)), H', ⟨by have := HK1.out; have := HK2.out; have := HK3.out; omega⟩, ⟨by refine ra (h := ?_); exact HO_11.out⟩, ⟨by refine ra (h := ?_); exact HO_184000.out⟩, ⟨by (with_reducible repeat (first | apply Kd.S_alloc | apply Kd.S_drewN | apply Kd.S_drew)); exact HO_184001.out⟩, ⟨by refine ra (h := ?_); exact HO_184002.out⟩, ⟨by refine bk (h := ?_); exact BK174.out⟩, ⟨by refine bk (h := ?_); exact BK183.out⟩, ⟨bw⟩⟩
                · rw [if_neg c36] at H
                  have c36b0 : decide (x14_2 < (x11_1.length : Int)) = false := decide_eq_false c36
                  clear c36
                  simp only [Option.some.injEq, Prod.mk.injEq] at H
                  obtain ⟨rfl, rfl, rfl, rfl⟩ := H
                  obtain ⟨Ao64, co64, eo64⟩ := Kd.R_slice HO_11.out
                  subst eo64
                  have hnb65 := NB183_174.out
                  have hnc65 := NB174_183.out
                  obtain ⟨z66_0, z66_1, z66_2, y66_0, y66_1, y66_2⟩ := bq3 BK183
                  obtain ⟨z67_0, z67_1, z67_2, y67_0, y67_1, y67_2⟩ := bq3 BK174
                  obtain ⟨Ao68, co68, eo68⟩ := Kd.S_slice HO_184001.out
                  subst eo68
                  obtain ⟨Ao69, co69, eo69⟩ := Kd.R_slice HO_184002.out
                  subst eo69
                  go_wp2
                  refine bodyPost_ret (results_ct rfl _ _ gb174 65 #[.slice Ao12 t180.length co12, .slice Ao68 x184001_1.length co68, .slice Ao69 x184002_2.length co69] (0, 0) _ rfl (by refine bk (h := ?_); refine blk_put (cs := #[.slice Ao12 t180.length co12, .slice Ao68 x184001_1.length co68, .slice none 0 0]) ?_ 2 _ rfl; refine bk (h := ?_); refine blk_put (cs := #[.slice Ao12 t180.length co12, .slice none 0 0, .slice none 0 0]) ?_ 1 _ rfl; refine bk (h := ?_); refine blk_put (cs := #[.slice none 0 0, .slice none 0 0, .slice none 0 0]) ?_ 0 _ rfl; refine bk (h := ?_); exact BK174.out) Try.underlying65 rfl (by kernel_rfl)) rfl ?_
                  exact ⟨_, _, _, er, by refine ra (h := ?_); exact Kd.R_mono (Kd.R_far (p := ⟨gb174, 2, none⟩) (Kd.R_far (p := ⟨gb174, 1, none⟩) (Kd.R_far (p := ⟨gb174, 0, none⟩) (Kd.R_types HO_184000.out BK174.out (by decide)) (fun _ hk => hk.2) (.slice Ao12 t180.length co12)) (fun _ hk => hk.2) (.slice Ao68 x184001_1.length co68)) (fun _ hk => hk.2) (.slice Ao69 x184002_2.length co69)) (fun _ hk => trivial), by (with_reducible repeat (first | apply Kd.S_alloc | apply Kd.S_drewN | apply Kd.S_drew)); exact Kd.S_mono (Kd.S_far (p := ⟨gb174, 2, none⟩) (Kd.S_far (p := ⟨gb174, 1, none⟩) (Kd.S_far (p := ⟨gb174, 0, none⟩) (Kd.S_types HO_184001.out BK174.out (by decide)) (fun _ hk => hk.2) (.slice Ao12 t180.length co12)) (fun _ hk => hk.2) (.slice Ao68 x184001_1.length co68)) (fun _ hk => hk.2) (.slice Ao69 x184002_2.length co69)) (fun _ hk => hk.1), by refine ra (h := ?_); exact Kd.R_mono (Kd.R_far (p := ⟨gb174, 2, none⟩) (Kd.R_far (p := ⟨gb174, 1, none⟩) (Kd.R_far (p := ⟨gb174, 0, none⟩) (Kd.R_types HO_184002.out BK174.out (by decide)) (fun _ hk => hk.2) (.slice Ao12 t180.length co12)) (fun _ hk => hk.2) (.slice Ao68 x184001_1.length co68)) (fun _ hk => hk.2) (.slice Ao69 x184002_2.length co69)) (fun _ hk => trivial), bw⟩
    · replace c7 := Bool.eq_false_iff.mpr c7
      subst c7
      rw [if_neg nf] at H
      simp only [Option.some.injEq, Prod.mk.injEq] at H
      obtain ⟨rfl, rfl, rfl, rfl⟩ := H
      go_enter Try.func39, Try.ntmps39
      go_wp2_with (first | ((with_reducible refine gate_dst (N := 6) rfl ?_); refine bx #[.slice none 0 0, .slice none 0 0, .slice none 0 0] 65 ?_; intro gb174 hg w70 hbox hb; have BK174 := Aside0.mk hbox; have GW174 := bg hg; have GE174 := bg hg; replace HB := bs hb; clear hb hbox hg) | ((with_reducible refine gate_callee (f := 73) rfl ?_); refine gl (some 19) Try.func73 #[.int .i64 a0, .int .i64 a1] ?_; (with_reducible refine (spec_l26Ok.calls a0 a1 true _ A4.out).mono ?_); rintro e w' ⟨rfl, ⟨nd, rfl⟩⟩; refine ⟨_, rfl, ?_⟩; (try (rw [drewN_self w70]; generalize hq_ : World.drewN w70 _ = w70; have n0_ : Aside0 (w70.heap[gb174]? = some (.cells #[.slice none 0 0, .slice none 0 0, .slice none 0 0] 65 (0, 0))) := ⟨by rw [← hq_]; exact (by refine bk (h := ?_); exact BK174.out)⟩; have n1_ : Aside0 (Below w.heap.size w w70) := ⟨by rw [← hq_]; exact bw⟩; clear BK174 HB hq_; have BK174 := n0_; have HB := n1_; clear n0_ n1_))) | ((with_reducible refine gate_callee (f := 84) rfl ?_); refine gl (some 27) Try.func84 #[.int .i64 (wrap64 (a0 * a1)), .slice A2 l2.length c2] ?_; (with_reducible refine (spec_l26Levels.calls k (wrap64 (a0 * a1)) _ _ l2 t176 false _ ?side1 ?side2 A6.out).mono ?_); (case side1 => exact sd HR2); (case side2 => exact HC2.out); rintro e w71 ⟨v178, rfl, ho0, hb⟩; refine ⟨_, rfl, ?_⟩; have HO179 := Aside0.mk (Kd.R_lower ho0 (below_size bw)); replace BK174 := bb BK174 hb; replace HB := bs hb; (try clear hb); (try clear hb2); (try clear hk); (try clear hi); (try clear ho0); obtain ⟨z72_0, z72_1, z72_2, y72_0, y72_1, y72_2⟩ := bq3 BK174))
      refine bodyPost_ret (results_ct rfl _ _ gb174 65 #[.slice none 0 0, .slice none 0 0, .slice none 0 0] (0, 0) _ rfl (by refine bk (h := ?_); refine blk_put (cs := #[.slice none 0 0, .slice none 0 0, .slice none 0 0]) ?_ 2 _ rfl; refine bk (h := ?_); refine blk_put (cs := #[.slice none 0 0, .slice none 0 0, .slice none 0 0]) ?_ 1 _ rfl; refine bk (h := ?_); refine blk_put (cs := #[.slice none 0 0, .slice none 0 0, .slice none 0 0]) ?_ 0 _ rfl; refine bk (h := ?_); exact BK174.out) Try.underlying65 rfl (by kernel_rfl)) rfl ?_
      exact ⟨_, _, _, er, by first | exact Kd.R_nil _ _ _ _ _ | exact Kd.N_nil _ _ _ _ _ | exact Kd.V_nil _ _ _ _ _ | exact Kd.Q_nil _ _ _ _ _ | exact Kd.S_nil _ _ _ _ _, by first | exact Kd.S_nil _ _ _ _ _ | exact Kd.N_nil _ _ _ _ _ | exact Kd.V_nil _ _ _ _ _ | exact Kd.Q_nil _ _ _ _ _ | exact Kd.R_nil _ _ _ _ _, by first | exact Kd.R_nil _ _ _ _ _ | exact Kd.N_nil _ _ _ _ _ | exact Kd.V_nil _ _ _ _ _ | exact Kd.Q_nil _ _ _ _ _ | exact Kd.S_nil _ _ _ _ _, bw⟩
  · replace c5 := Bool.eq_false_iff.mpr c5
    subst c5
    rw [if_neg nf] at H
    simp only [Option.some.injEq, Prod.mk.injEq] at H
    obtain ⟨rfl, rfl, rfl, rfl⟩ := H
    go_enter Try.func39, Try.ntmps39
    go_wp2_with (first | ((with_reducible refine gate_dst (N := 6) rfl ?_); refine bx #[.slice none 0 0, .slice none 0 0, .slice none 0 0] 65 ?_; intro gb174 hg w73 hbox hb; have BK174 := Aside0.mk hbox; have GW174 := bg hg; have GE174 := bg hg; replace HB := bs hb; clear hb hbox hg) | ((with_reducible refine gate_callee (f := 73) rfl ?_); refine gl (some 19) Try.func73 #[.int .i64 a0, .int .i64 a1] ?_; (with_reducible refine (spec_l26Ok.calls a0 a1 false _ A4.out).mono ?_); rintro e w' ⟨rfl, ⟨nd, rfl⟩⟩; refine ⟨_, rfl, ?_⟩; (try (rw [drewN_self w73]; generalize hq_ : World.drewN w73 _ = w73; have n0_ : Aside0 (w73.heap[gb174]? = some (.cells #[.slice none 0 0, .slice none 0 0, .slice none 0 0] 65 (0, 0))) := ⟨by rw [← hq_]; exact (by refine bk (h := ?_); exact BK174.out)⟩; have n1_ : Aside0 (Below w.heap.size w w73) := ⟨by rw [← hq_]; exact bw⟩; clear BK174 HB hq_; have BK174 := n0_; have HB := n1_; clear n0_ n1_)); obtain ⟨z74_0, z74_1, z74_2, y74_0, y74_1, y74_2⟩ := bq3 BK174))
    refine bodyPost_ret (results_ct rfl _ _ gb174 65 #[.slice none 0 0, .slice none 0 0, .slice none 0 0] (0, 0) _ rfl (by refine bk (h := ?_); refine blk_put (cs := #[.slice none 0 0, .slice none 0 0, .slice none 0 0]) ?_ 2 _ rfl; refine bk (h := ?_); refine blk_put (cs := #[.slice none 0 0, .slice none 0 0, .slice none 0 0]) ?_ 1 _ rfl; refine bk (h := ?_); refine blk_put (cs := #[.slice none 0 0, .slice none 0 0, .slice none 0 0]) ?_ 0 _ rfl; refine bk (h := ?_); exact BK174.out) Try.underlying65 rfl (by kernel_rfl)) rfl ?_
    exact ⟨_, _, _, er, by first | exact Kd.R_nil _ _ _ _ _ | exact Kd.N_nil _ _ _ _ _ | exact Kd.V_nil _ _ _ _ _ | exact Kd.Q_nil _ _ _ _ _ | exact Kd.S_nil _ _ _ _ _, by first | exact Kd.S_nil _ _ _ _ _ | exact Kd.N_nil _ _ _ _ _ | exact Kd.V_nil _ _ _ _ _ | exact Kd.Q_nil _ _ _ _ _ | exact Kd.R_nil _ _ _ _ _, by first | exact Kd.R_nil _ _ _ _ _ | exact Kd.N_nil _ _ _ _ _ | exact Kd.V_nil _ _ _ _ _ | exact Kd.Q_nil _ _ _ _ _ | exact Kd.S_nil _ _ _ _ _, bw⟩

end Go.Proofs.Yteadienaeapaeaa.PT
