-- Made by a program of this session (myprint.py) out of the translation.
import Derived.Test.YteadienaeapaeaaZssPTx0
import Derived.Test.YteadienaeapaeaaZssPTx4
import Derived.Test.YteadienaeapaeaaZssPTx7
import Derived.Test.YteadienaeapaeaaZssShort
namespace Go.Proofs.Yteadienaeapaeaa.PT
open Go.Proofs.Yteadienaeapaeaa.Short
open Go.Proofs.Yteadienaeapaeaa.Dyn
open Go.RowKit Go.Proofs.YteadienaeapaeaaW.PrintWords Go.Proofs.YteadienaeapaeaaW.PrintLast Go.Proofs.YteadienaeapaeaaW.PrintMore
attribute [local go_sem] max2_int min2_int max_two min_two max_three min_three max_four min_four   -- for this text's walks alone
set_option linter.unusedVariables false
set_option linter.unusedSimpArgs false

/-! ### impl_StackState: function 40 -/
mutual
def impl_StackState.l0 : Nat → Int → Int → List Int → List Int → Int → Int → List (S130) → List (S121) → Option ((List (S130)) × (List (S121)) × List Int × Int)
  | 0, _, _, _, _, _, _, _, _ => none
  | k + 1, x0, x1, x8, x10, x36, x37, x284000, x284001 => if x37 < x36 then (impl_StackState.l1 k x0 x1 x8 x10 x37 x36 x37 x0 0 x284000 x284001) else (impl_StackState.l2 k x10 x10 (x10.length : Int) 0 x284000 x284001 ([] : List Int))
def impl_StackState.l1 : Nat → Int → Int → List Int → List Int → Int → Int → Int → Int → Int → List (S130) → List (S121) → Option ((List (S130)) × (List (S121)) × List Int × Int)
  | 0, _, _, _, _, _, _, _, _, _, _, _ => none
  | k + 1, x0, x1, x8, x10, x11, x36, x37, x40, x41, x284000, x284001 => if x41 < x40 then ((impl_rectangle.f x11 x41 1 1).bind fun t284 => ((impl_squareMotion.f k x41 x11).bind fun bt287 => (if x284001.length < 1599289640401 then (if 0 ≤ (wrap64 ((wrap64 (x41 * x1)) + x11)) then (if (wrap64 ((wrap64 (x41 * x1)) + x11)) < (x8.length : Int) then (if x10.length < 17592186044416 then (impl_StackState.l1 k x0 x1 x8 (x10 ++ [rd x8 (wrap64 ((wrap64 (x41 * x1)) + x11))]) x11 x36 x37 x40 (wrap64 (x41 + 1)) x284000 (x284001 ++ [(⟨t284, (⟨bt287.1, bt287.2.1, (⟨bt287.2.2.1, bt287.2.2.2.1, bt287.2.2.2.2.1⟩ : S94), (⟨bt287.2.2.2.2.2.1, bt287.2.2.2.2.2.2.1, bt287.2.2.2.2.2.2.2⟩ : S94)⟩ : S118)⟩ : S121)])) else (none)) else (none)) else (none)) else (none)))) else (impl_StackState.l0 k x0 x1 x8 x10 x36 (wrap64 (x37 + 1)) x284000 x284001)
def impl_StackState.l2 : Nat → List Int → List Int → Int → Int → List (S130) → List (S121) → List Int → Option ((List (S130)) × (List (S121)) × List Int × Int)
  | 0, _, _, _, _, _, _, _ => none
  | k + 1, x10, x69, x70, x71, x284000, x284001, x284002 => if x71 < x70 then (if 0 ≤ x71 then (if x71 < (x69.length : Int) then (impl_StackState.l3 k x10 (rd x69 x71) x69 x70 x71 x10 (x10.length : Int) 0 x284000 x284001 x284002) else (none)) else (none)) else (some (x284000, x284001, x284002, 0))
def impl_StackState.l3 : Nat → List Int → Int → List Int → Int → Int → List Int → Int → Int → List (S130) → List (S121) → List Int → Option ((List (S130)) × (List (S121)) × List Int × Int)
  | 0, _, _, _, _, _, _, _, _, _, _, _ => none
  | k + 1, x10, x14, x69, x70, x71, x75, x76, x77, x284000, x284001, x284002 => if x77 < x76 then (if 0 ≤ x77 then (if x77 < (x75.length : Int) then ((cmp_Compare_int64.f x14 (rd x75 x77)).bind fun t304 => (if x284002.length < 17592186044416 then (impl_StackState.l3 k x10 x14 x69 x70 x71 x75 x76 (wrap64 (x77 + 1)) x284000 x284001 (x284002 ++ [t304])) else (none))) else (none)) else (none)) else (impl_StackState.l2 k x10 x69 x70 (wrap64 (x71 + 1)) x284000 x284001 x284002)
end
def impl_StackState.f (k : Nat) (a0 : Int) (a1 : Int) (l2 : List Int) : Option ((List (S130)) × (List (S121)) × List Int × Int) := (impl_ValidMap.f a0 a1).bind fun t275 => (if t275 = true then ((impl_isStack.f a0 a1 l2).bind fun t276 => (if t276 = true then ((impl_heights.f k l2).bind fun t277 => ((impl_rectangle.f 0 0 a1 a0).bind fun t280 => (impl_StackState.l0 k a0 a1 t277 ([] : List Int) a1 0 t280 ([] : List (S121))))) else (some (([] : List (S130)), ([] : List (S121)), ([] : List Int), 12)))) else (some (([] : List (S130)), ([] : List (S121)), ([] : List Int), 1)))
theorem impl_StackState.mono_l : ∀ k, (∀ y0 y1 y2 y3 y4 y5 y6 y7, LeO (impl_StackState.l0 k y0 y1 y2 y3 y4 y5 y6 y7) (impl_StackState.l0 (k + 1) y0 y1 y2 y3 y4 y5 y6 y7)) ∧ (∀ y0 y1 y2 y3 y4 y5 y6 y7 y8 y9 y10, LeO (impl_StackState.l1 k y0 y1 y2 y3 y4 y5 y6 y7 y8 y9 y10) (impl_StackState.l1 (k + 1) y0 y1 y2 y3 y4 y5 y6 y7 y8 y9 y10)) ∧ (∀ y0 y1 y2 y3 y4 y5 y6, LeO (impl_StackState.l2 k y0 y1 y2 y3 y4 y5 y6) (impl_StackState.l2 (k + 1) y0 y1 y2 y3 y4 y5 y6)) ∧ (∀ y0 y1 y2 y3 y4 y5 y6 y7 y8 y9 y10, LeO (impl_StackState.l3 k y0 y1 y2 y3 y4 y5 y6 y7 y8 y9 y10) (impl_StackState.l3 (k + 1) y0 y1 y2 y3 y4 y5 y6 y7 y8 y9 y10))
  | 0 => ⟨fun _ _ _ _ _ _ _ _ r h => by simp [impl_StackState.l0] at h, fun _ _ _ _ _ _ _ _ _ _ _ r h => by simp [impl_StackState.l1] at h, fun _ _ _ _ _ _ _ r h => by simp [impl_StackState.l2] at h, fun _ _ _ _ _ _ _ _ _ _ _ r h => by simp [impl_StackState.l3] at h⟩
  | k + 1 => by
    obtain ⟨ih0, ih1, ih2, ih3⟩ := impl_StackState.mono_l k
    refine ⟨?_, ?_, ?_, ?_⟩
    · intro y0 y1 y2 y3 y4 y5 y6 y7
      unfold impl_StackState.l0
      repeat' first
      | (with_reducible exact ih0 _ _ _ _ _ _ _ _)
      | (with_reducible exact ih1 _ _ _ _ _ _ _ _ _ _ _)
      | (with_reducible exact ih2 _ _ _ _ _ _ _)
      | (with_reducible exact ih3 _ _ _ _ _ _ _ _ _ _ _)
      | (with_reducible exact impl_heights.mono _ _)
      | (with_reducible exact impl_squareMotion.mono _ _ _)
      | (with_reducible exact LeO.refl _)
      | (with_reducible exact LeO.none _)
      | (with_reducible refine LeO.ite ?_ ?_)
      | (with_reducible refine LeO.bind ?_ (fun _ => ?_))
      | exact ih0 _ _ _ _ _ _ _ _
      | exact ih1 _ _ _ _ _ _ _ _ _ _ _
      | exact ih2 _ _ _ _ _ _ _
      | exact ih3 _ _ _ _ _ _ _ _ _ _ _
      | exact impl_heights.mono _ _
      | exact impl_squareMotion.mono _ _ _
      | exact LeO.none _
      | refine LeO.ite ?_ ?_
      | refine LeO.bind ?_ (fun _ => ?_)
    · intro y0 y1 y2 y3 y4 y5 y6 y7 y8 y9 y10
      unfold impl_StackState.l1
      repeat' first
      | (with_reducible exact ih0 _ _ _ _ _ _ _ _)
      | (with_reducible exact ih1 _ _ _ _ _ _ _ _ _ _ _)
      | (with_reducible exact ih2 _ _ _ _ _ _ _)
      | (with_reducible exact ih3 _ _ _ _ _ _ _ _ _ _ _)
      | (with_reducible exact impl_heights.mono _ _)
      | (with_reducible exact impl_squareMotion.mono _ _ _)
      | (with_reducible exact LeO.refl _)
      | (with_reducible exact LeO.none _)
      | (with_reducible refine LeO.ite ?_ ?_)
      | (with_reducible refine LeO.bind ?_ (fun _ => ?_))
      | exact ih0 _ _ _ _ _ _ _ _
      | exact ih1 _ _ _ _ _ _ _ _ _ _ _
      | exact ih2 _ _ _ _ _ _ _
      | exact ih3 _ _ _ _ _ _ _ _ _ _ _
      | exact impl_heights.mono _ _
      | exact impl_squareMotion.mono _ _ _
      | exact LeO.none _
      | refine LeO.ite ?_ ?_
      | refine LeO.bind ?_ (fun _ => ?_)
    · intro y0 y1 y2 y3 y4 y5 y6
      unfold impl_StackState.l2
      repeat' first
      | (with_reducible exact ih0 _ _ _ _ _ _ _ _)
      | (with_reducible exact ih1 _ _ _ _ _ _ _ _ _ _ _)
      | (with_reducible exact ih2 _ _ _ _ _ _ _)
      | (with_reducible exact ih3 _ _ _ _ _ _ _ _ _ _ _)
      | (with_reducible exact impl_heights.mono _ _)
      | (with_reducible exact impl_squareMotion.mono _ _ _)
      | (with_reducible exact LeO.refl _)
      | (with_reducible exact LeO.none _)
      | (with_reducible refine LeO.ite ?_ ?_)
      | (with_reducible refine LeO.bind ?_ (fun _ => ?_))
      | exact ih0 _ _ _ _ _ _ _ _
      | exact ih1 _ _ _ _ _ _ _ _ _ _ _
      | exact ih2 _ _ _ _ _ _ _
      | exact ih3 _ _ _ _ _ _ _ _ _ _ _
      | exact impl_heights.mono _ _
      | exact impl_squareMotion.mono _ _ _
      | exact LeO.none _
      | refine LeO.ite ?_ ?_
      | refine LeO.bind ?_ (fun _ => ?_)
    · intro y0 y1 y2 y3 y4 y5 y6 y7 y8 y9 y10
      unfold impl_StackState.l3
      repeat' first
      | (with_reducible exact ih0 _ _ _ _ _ _ _ _)
      | (with_reducible exact ih1 _ _ _ _ _ _ _ _ _ _ _)
      | (with_reducible exact ih2 _ _ _ _ _ _ _)
      | (with_reducible exact ih3 _ _ _ _ _ _ _ _ _ _ _)
      | (with_reducible exact impl_heights.mono _ _)
      | (with_reducible exact impl_squareMotion.mono _ _ _)
      | (with_reducible exact LeO.refl _)
      | (with_reducible exact LeO.none _)
      | (with_reducible refine LeO.ite ?_ ?_)
      | (with_reducible refine LeO.bind ?_ (fun _ => ?_))
      | exact ih0 _ _ _ _ _ _ _ _
      | exact ih1 _ _ _ _ _ _ _ _ _ _ _
      | exact ih2 _ _ _ _ _ _ _
      | exact ih3 _ _ _ _ _ _ _ _ _ _ _
      | exact impl_heights.mono _ _
      | exact impl_squareMotion.mono _ _ _
      | exact LeO.none _
      | refine LeO.ite ?_ ?_
      | refine LeO.bind ?_ (fun _ => ?_)
theorem impl_StackState.mono : ∀ a0 a1 a2 k, LeO (impl_StackState.f k a0 a1 a2) (impl_StackState.f (k + 1) a0 a1 a2) := by
  intro a0 a1 a2 k
  obtain ⟨ih0, ih1, ih2, ih3⟩ := impl_StackState.mono_l k
  unfold impl_StackState.f
  repeat' first
      | (with_reducible exact ih0 _ _ _ _ _ _ _ _)
      | (with_reducible exact ih1 _ _ _ _ _ _ _ _ _ _ _)
      | (with_reducible exact ih2 _ _ _ _ _ _ _)
      | (with_reducible exact ih3 _ _ _ _ _ _ _ _ _ _ _)
      | (with_reducible exact impl_heights.mono _ _)
      | (with_reducible exact impl_squareMotion.mono _ _ _)
      | (with_reducible exact LeO.refl _)
      | (with_reducible exact LeO.none _)
      | (with_reducible refine LeO.ite ?_ ?_)
      | (with_reducible refine LeO.bind ?_ (fun _ => ?_))
      | exact ih0 _ _ _ _ _ _ _ _
      | exact ih1 _ _ _ _ _ _ _ _ _ _ _
      | exact ih2 _ _ _ _ _ _ _
      | exact ih3 _ _ _ _ _ _ _ _ _ _ _
      | exact impl_heights.mono _ _
      | exact impl_squareMotion.mono _ _ _
      | exact LeO.none _
      | refine LeO.ite ?_ ?_
      | refine LeO.bind ?_ (fun _ => ?_)
def impl_StackState.T14 : Bool × List (List Nat × List Nat) := (true, [([], []), ([0], [0]), ([], []), ([], []), ([2, 3], [2, 3]), ([], []), ([], []), ([5, 6, 4], [5, 6]), ([4, 7], [4, 7]), ([8], [8]), ([1, 9, 7], [1, 9]), ([0, 1, 2, 3, 4, 5, 6, 7, 8, 9, 10], []), ([11, 10, 10, 0, 1, 2, 3, 4, 5, 6, 7, 8, 9, 10], [10, 11])])
def impl_StackState.B14 : List Nat := [0, 1, 0, 0, 12, 0, 0, 124, 252, 508, 1023, 2047, 4095]
theorem impl_StackState.tab14 : rtab .any (opsOf Try.f40 14) = impl_StackState.T14 := by kernel_rfl
theorem impl_StackState.bits14 : waitsOk impl_StackState.T14.2 impl_StackState.B14 = true := by kernel_rfl
def impl_StackState.T24 : Bool × List (List Nat × List Nat) := (true, [([], []), ([0], [0]), ([], []), ([], []), ([2, 3], [2, 3]), ([4], [4]), ([1, 5, 4], [1, 5]), ([0, 1, 2, 3, 4, 5, 6], []), ([7, 6, 6, 0, 1, 2, 3, 4, 5, 6], [6, 7])])
def impl_StackState.B24 : List Nat := [0, 1, 0, 0, 12, 28, 63, 127, 255]
theorem impl_StackState.tab24 : rtab .any (opsOf Try.f40 24) = impl_StackState.T24 := by kernel_rfl
theorem impl_StackState.bits24 : waitsOk impl_StackState.T24.2 impl_StackState.B24 = true := by kernel_rfl
set_option maxHeartbeats 8000000 in
set_option maxRecDepth 100000 in
theorem impl_StackState.calls (k : Nat) (a0 : Int) (a1 : Int) (A2 : Option Addr) (c2 : Nat) (l2 : List Int) (r1 : List (S130)) (r2 : List (S121)) (r3 : List Int) (r4 : Int) (w : World) (hr2 : Kd.C (Kd.int .i64) w A2 l2.length l2) (hc2 : l2.length ≤ c2) (h : impl_StackState.f k a0 a1 l2 = some (r1, r2, r3, r4)) :
    Calls Try.prog 40 #[.int .i64 a0, .int .i64 a1, .slice A2 l2.length c2] w fun e w' => ∃ v0_ v1_ v2_ : Value, e = .returned (.tuple #[.agg #[v0_, v1_, v2_], .int .i64 r4]) ∧ Kd.R k130 130 w' w.heap.size (fun _ => True) v0_ r1 ∧ Kd.S k121 121 w' w.heap.size (fun k_ => some k_ ≠ (v0_ : Value).ownBlock) v1_ r2 ∧ Kd.R (Kd.int .i64) 2 w' w.heap.size (fun _ => True) v2_ r3 ∧ Below w.heap.size w w' := by
  have hu65 := Try.underlying65
  have hu121 := Try.underlying121
  have HR2 := Aside0.mk hr2
  have HC2 := Aside0.mk hc2
  clear hr2 hc2
  have HB := Aside0.mk (Below.refl w.heap.size w)
  have H : ((impl_ValidMap.f a0 a1).bind fun t275 => (if t275 = true then ((impl_isStack.f a0 a1 l2).bind fun t276 => (if t276 = true then ((impl_heights.f k l2).bind fun t277 => ((impl_rectangle.f 0 0 a1 a0).bind fun t280 => (impl_StackState.l0 k a0 a1 t277 ([] : List Int) a1 0 t280 ([] : List (S121))))) else (some (([] : List (S130)), ([] : List (S121)), ([] : List Int), 12)))) else (some (([] : List (S130)), ([] : List (S121)), ([] : List Int), 1)))) = some (r1, r2, r3, r4) := h
  clear h
  replace H := Option.bind_eq_some_iff.mp H
  obtain ⟨t275, A40, H⟩ := H
  replace H : (if t275 = true then ((impl_isStack.f a0 a1 l2).bind fun t276 => (if t276 = true then ((impl_heights.f k l2).bind fun t277 => ((impl_rectangle.f 0 0 a1 a0).bind fun t280 => (impl_StackState.l0 k a0 a1 t277 ([] : List Int) a1 0 t280 ([] : List (S121))))) else (some (([] : List (S130)), ([] : List (S121)), ([] : List Int), 12)))) else (some (([] : List (S130)), ([] : List (S121)), ([] : List Int), 1))) = some (r1, r2, r3, r4) := H
  have A4 := Aside0.mk A40
  clear A40
  by_cases c5 : t275 = true
  · subst c5
    rw [if_pos rfl] at H
    replace H := Option.bind_eq_some_iff.mp H
    obtain ⟨t276, A60, H⟩ := H
    replace H : (if t276 = true then ((impl_heights.f k l2).bind fun t277 => ((impl_rectangle.f 0 0 a1 a0).bind fun t280 => (impl_StackState.l0 k a0 a1 t277 ([] : List Int) a1 0 t280 ([] : List (S121))))) else (some (([] : List (S130)), ([] : List (S121)), ([] : List Int), 12))) = some (r1, r2, r3, r4) := H
    have A6 := Aside0.mk A60
    clear A60
    by_cases c7 : t276 = true
    · subst c7
      rw [if_pos rfl] at H
      replace H := Option.bind_eq_some_iff.mp H
      obtain ⟨t277, A80, H⟩ := H
      replace H : ((impl_rectangle.f 0 0 a1 a0).bind fun t280 => (impl_StackState.l0 k a0 a1 t277 ([] : List Int) a1 0 t280 ([] : List (S121)))) = some (r1, r2, r3, r4) := H
      have A8 := Aside0.mk A80
      clear A80
      replace H := Option.bind_eq_some_iff.mp H
      obtain ⟨t280, A90, H⟩ := H
      replace H : (impl_StackState.l0 k a0 a1 t277 ([] : List Int) a1 0 t280 ([] : List (S121))) = some (r1, r2, r3, r4) := H
      have A9 := Aside0.mk A90
      clear A90
      have H' := Aside0.mk H
      clear H
      go_enter Try.func40, Try.ntmps40
      go_wp2_with (first | ((with_reducible refine gate_dst (N := 6) rfl ?_); refine bx #[.slice none 0 0, .slice none 0 0, .slice none 0 0] 65 ?_; intro gb274 hg w10 hbox hb; have BK274 := Aside0.mk hbox; have GW274 := bg hg; have GE274 := bg hg; replace HB := bs hb; clear hb hbox hg) | ((with_reducible refine gate_callee (f := 75) rfl ?_); refine gl (some 20) Try.func75 #[.int .i64 a0, .int .i64 a1] ?_; (with_reducible refine (impl_ValidMap.calls a0 a1 true _ A4.out).mono ?_); rintro e w' ⟨rfl, ⟨nd, rfl⟩⟩; refine ⟨_, rfl, ?_⟩; (try (rw [drewN_self w10]; generalize hq_ : World.drewN w10 _ = w10; have n0_ : Aside0 (w10.heap[gb274]? = some (.cells #[.slice none 0 0, .slice none 0 0, .slice none 0 0] 65 (0, 0))) := ⟨by rw [← hq_]; exact (by refine bk (h := ?_); exact BK274.out)⟩; have n1_ : Aside0 (Below w.heap.size w w10) := ⟨by rw [← hq_]; exact bw⟩; clear BK274 HB hq_; have BK274 := n0_; have HB := n1_; clear n0_ n1_))) | ((with_reducible refine gate_callee (f := 76) rfl ?_); refine gl (some 27) Try.func76 #[.int .i64 a0, .int .i64 a1, .slice A2 l2.length c2] ?_; (with_reducible refine (impl_isStack.calls a0 a1 _ _ l2 true _ ?side1 ?side2 A6.out).mono ?_); (case side1 => exact sd HR2); (case side2 => exact HC2.out); rintro e w11 ⟨rfl, hb⟩; refine ⟨_, rfl, ?_⟩; replace BK274 := bb BK274 hb; replace HB := bs hb; (try clear hb); (try clear hb2); (try clear hk); (try clear hi)) | ((with_reducible refine gate_callee (f := 88) rfl ?_); refine gl (some 31) Try.func88 #[.slice A2 l2.length c2] ?_; (with_reducible refine (impl_heights.calls k _ _ l2 t277 _ ?side1 ?side2 A8.out).mono ?_); (case side1 => exact sd HR2); (case side2 => exact HC2.out); rintro e w12 ⟨v278, rfl, ho0, hb⟩; refine ⟨_, rfl, ?_⟩; have HO279 := Aside0.mk (Kd.R_lower ho0 (below_size bw)); replace BK274 := bb BK274 hb; replace HB := bs hb; (try clear hb); (try clear hb2); (try clear hk); (try clear hi); (try clear ho0)) | ((with_reducible refine gate_callee (f := 94) rfl ?_); refine gl (some 34) Try.func94 #[.int .i64 0, .int .i64 0, .int .i64 a1, .int .i64 a0] ?_; (with_reducible refine (impl_rectangle.calls 0 0 a1 a0 t280 _ A9.out).mono ?_); rintro e w13 ⟨v281, rfl, ho0, hb⟩; refine ⟨_, rfl, ?_⟩; have HO282 := Aside0.mk (Kd.R_lower ho0 (below_size bw)); replace HO279 := Aside0.mk (Kd.R_below (ra (h := HO279.out)) hb); replace BK274 := bb BK274 hb; replace HB := bs hb; (try clear hb); (try clear hb2); (try clear hk); (try clear hi); (try clear ho0); obtain ⟨Ao14, co14, eo14⟩ := Kd.R_slice HO282.out; subst eo14) | ((with_reducible refine gate_dst (N := 9) rfl ?_); refine bx #[.slice none 0 0, .slice none 0 0, .slice none 0 0] 65 ?_; intro gb283 hg w15 hbox hb; have BK283 := Aside0.mk hbox; have GW283 := bg hg; have GE283 := bg hg; have NB274_283 := bl BK274 hg; have NB283_274 := bv BK274 hg; replace HO279 := Aside0.mk (Kd.R_below (ra (h := HO279.out)) hb); replace HO282 := Aside0.mk (Kd.R_below (ra (h := HO282.out)) hb); replace BK274 := bb BK274 hb; replace HB := bs hb; clear hb hbox hg; have hnb16 := NB283_274.out; have hnc16 := NB274_283.out; obtain ⟨z17_0, z17_1, z17_2, y17_0, y17_1, y17_2⟩ := bq3 BK283))
      go_loopg [10, 37] k (fun kq v10 v37 w' => ∃ (x10_1 : List Int) (x37_1 : Int) (x284001_1 : List (S121)) (u284001 : Value), v37 = .int .i64 x37_1 ∧ Aside0 (impl_StackState.l0 kq a0 a1 t277 x10_1 a1 x37_1 t280 x284001_1 = some (r1, r2, r3, r4)) ∧ Aside0 (kq ≤ k) ∧ Aside0 (Kd.R (Kd.int .i64) 2 w' w.heap.size (fun k_ => some k_ ≠ (v10 : Value).ownBlock) v278 t277) ∧ Aside0 (Kd.R (Kd.int .i64) 2 w' w.heap.size (fun k_ => some k_ ≠ (v278 : Value).ownBlock) v10 x10_1) ∧ Aside0 (Kd.R k130 130 w' w.heap.size (fun _ => True) (.slice Ao14 t280.length co14) t280) ∧ Aside0 (Kd.S k121 121 w' w.heap.size (fun k_ => some k_ ≠ ((.slice Ao14 t280.length co14) : Value).ownBlock) u284001 x284001_1) ∧ Aside0 (w'.heap[gb274]? = some (.cells #[(.slice none 0 0), (.slice none 0 0), (.slice none 0 0)] 65 (0, 0))) ∧ Aside0 (w'.heap[gb283]? = some (.cells #[(.slice Ao14 t280.length co14), u284001, (.slice none 0 0)] 65 (0, 0))) ∧ Aside0 (Below w.heap.size w w'))
      case atStart => exact ⟨(([] : List Int)), (0), (([] : List (S121))), (.slice none 0 0), (by first | rfl | (simp; done) | (simp [*]; done)), H', ⟨Nat.le_refl _⟩, ⟨by refine ra (h := ?_); exact Kd.R_mono (Kd.R_far (p := ⟨gb283, 2, none⟩) (Kd.R_far (p := ⟨gb283, 1, none⟩) (Kd.R_far (p := ⟨gb283, 0, none⟩) (Kd.R_types HO279.out BK283.out (by decide)) (fun _ hk => hk.2) (.slice Ao14 t280.length co14)) (fun _ hk => hk.2) (.slice none 0 0)) (fun _ hk => hk.2) (.slice none 0 0)) (fun _ hk => (by simp [Value.ownBlock]))⟩, ⟨by first | exact Kd.R_nil _ _ _ _ _ | exact Kd.N_nil _ _ _ _ _ | exact Kd.V_nil _ _ _ _ _ | exact Kd.Q_nil _ _ _ _ _ | exact Kd.S_nil _ _ _ _ _⟩, ⟨by refine ra (h := ?_); exact Kd.R_mono (Kd.R_far (p := ⟨gb283, 2, none⟩) (Kd.R_far (p := ⟨gb283, 1, none⟩) (Kd.R_far (p := ⟨gb283, 0, none⟩) (Kd.R_types HO282.out BK283.out (by decide)) (fun _ hk => hk.2) (.slice Ao14 t280.length co14)) (fun _ hk => hk.2) (.slice none 0 0)) (fun _ hk => hk.2) (.slice none 0 0)) (fun _ hk => trivial)⟩, ⟨by first | exact Kd.S_nil _ _ _ _ _ | exact Kd.N_nil _ _ _ _ _ | exact Kd.V_nil _ _ _ _ _ | exact Kd.Q_nil _ _ _ _ _ | exact Kd.R_nil _ _ _ _ _⟩, ⟨by refine bk (h := ?_); refine blk_far ?_ NB274_283.out _; refine bk (h := ?_); refine blk_far ?_ NB274_283.out _; refine bk (h := ?_); refine blk_far ?_ NB274_283.out _; refine bk (h := ?_); exact BK274.out⟩, ⟨by refine bk (h := ?_); refine blk_put (cs := #[.slice Ao14 t280.length co14, .slice none 0 0, .slice none 0 0]) ?_ 2 _ rfl; refine bk (h := ?_); refine blk_put (cs := #[.slice Ao14 t280.length co14, .slice none 0 0, .slice none 0 0]) ?_ 1 _ rfl; refine bk (h := ?_); refine blk_put (cs := #[.slice none 0 0, .slice none 0 0, .slice none 0 0]) ?_ 0 _ rfl; refine bk (h := ?_); exact BK283.out⟩, ⟨bw⟩⟩
      case round =>
        clear H'
        try clear c1
        try clear c2
        try clear p2
        try clear c4
        try clear c5
        try clear c7
        try clear c8
        try clear c9
        try clear c16
        try clear z17_0 z17_1 z17_2 y17_0 y17_1 y17_2
        obtain ⟨x10_1, x37_1, x284001_1, u284001, rfl, HA, HK1, HO_8, HO_10, HO_284000, HO_284001, BK274, BK283, HB⟩ := hrel
        cases gk with
        | zero => exact absurd HA.out (by simp [impl_StackState.l0])
        | succ k1 =>
          have H := HA.out
          clear HA
          simp only [impl_StackState.l0] at H
          by_cases c18 : x37_1 < a1
          · rw [if_pos c18] at H
            have c18b0 : decide (x37_1 < a1) = true := decide_eq_true c18
            clear c18
            have H' := Aside0.mk H
            clear H
            go_wp2
            go_loopg [10, 41] k1 (fun kq v10 v41 w' => ∃ (x10_2 : List Int) (x41_2 : Int) (x284001_2 : List (S121)) (u284001 : Value), v41 = .int .i64 x41_2 ∧ Aside0 (impl_StackState.l1 kq a0 a1 t277 x10_2 x37_1 a1 x37_1 a0 x41_2 t280 x284001_2 = some (r1, r2, r3, r4)) ∧ Aside0 (kq ≤ k1) ∧ Aside0 (Kd.R (Kd.int .i64) 2 w' w.heap.size (fun k_ => some k_ ≠ (v10 : Value).ownBlock) v278 t277) ∧ Aside0 (Kd.R (Kd.int .i64) 2 w' w.heap.size (fun k_ => some k_ ≠ (v278 : Value).ownBlock) v10 x10_2) ∧ Aside0 (Kd.R k130 130 w' w.heap.size (fun _ => True) (.slice Ao14 t280.length co14) t280) ∧ Aside0 (Kd.S k121 121 w' w.heap.size (fun k_ => some k_ ≠ ((.slice Ao14 t280.length co14) : Value).ownBlock) u284001 x284001_2) ∧ Aside0 (w'.heap[gb274]? = some (.cells #[(.slice none 0 0), (.slice none 0 0), (.slice none 0 0)] 65 (0, 0))) ∧ Aside0 (w'.heap[gb283]? = some (.cells #[(.slice Ao14 t280.length co14), u284001, (.slice none 0 0)] 65 (0, 0))) ∧ Aside0 (Below w.heap.size w w'))
            case atStart => exact ⟨(x10_1), (0), (x284001_1), (u284001), (by first | rfl | (simp; done) | (simp [*]; done)), H', ⟨Nat.le_refl _⟩, ⟨by refine ra (h := ?_); exact HO_8.out⟩, ⟨by refine ra (h := ?_); exact HO_10.out⟩, ⟨by refine ra (h := ?_); exact HO_284000.out⟩, ⟨by (with_reducible repeat (first | apply Kd.S_alloc | apply Kd.S_drewN | apply Kd.S_drew)); exact HO_284001.out⟩, ⟨by refine bk (h := ?_); exact BK274.out⟩, ⟨by refine bk (h := ?_); exact BK283.out⟩, ⟨bw⟩⟩
            case round =>
              clear H'
              try clear c1
              try clear c2
              try clear p2
              try clear c4
              try clear c5
              try clear c7
              try clear c8
              try clear c9
              try clear c16
              try clear c18
              try clear c18b0
              try clear z17_0 z17_1 z17_2 y17_0 y17_1 y17_2
              try clear p2
              obtain ⟨x10_2, x41_2, x284001_2, u284001, rfl, HA, HK2, HO_8, HO_10, HO_284000, HO_284001, BK274, BK283, HB⟩ := hrel
              cases gk with
              | zero => exact absurd HA.out (by simp [impl_StackState.l1])
              | succ k2 =>
                have H := HA.out
                clear HA
                simp only [impl_StackState.l1] at H
                by_cases c19 : x41_2 < a0
                · rw [if_pos c19] at H
                  have c19b0 : decide (x41_2 < a0) = true := decide_eq_true c19
                  clear c19
                  replace H := Option.bind_eq_some_iff.mp H
                  obtain ⟨t284, A200, H⟩ := H
                  replace H : ((impl_squareMotion.f k2 x41_2 x37_1).bind fun bt287 => (if x284001_2.length < 1599289640401 then (if 0 ≤ (wrap64 ((wrap64 (x41_2 * a1)) + x37_1)) then (if (wrap64 ((wrap64 (x41_2 * a1)) + x37_1)) < (t277.length : Int) then (if x10_2.length < 17592186044416 then (impl_StackState.l1 k2 a0 a1 t277 (x10_2 ++ [rd t277 (wrap64 ((wrap64 (x41_2 * a1)) + x37_1))]) x37_1 a1 x37_1 a0 (wrap64 (x41_2 + 1)) t280 (x284001_2 ++ [(⟨t284, (⟨bt287.1, bt287.2.1, (⟨bt287.2.2.1, bt287.2.2.2.1, bt287.2.2.2.2.1⟩ : S94), (⟨bt287.2.2.2.2.2.1, bt287.2.2.2.2.2.2.1, bt287.2.2.2.2.2.2.2⟩ : S94)⟩ : S118)⟩ : S121)])) else (none)) else (none)) else (none)) else (none))) = some (r1, r2, r3, r4) := H
                  have A20 := Aside0.mk A200
                  clear A200
                  replace H := Option.bind_eq_some_iff.mp H
                  obtain ⟨⟨t287, t288, t289, t290, t291, t292, t293, t294⟩, A210, H⟩ := H
                  replace H : (if x284001_2.length < 1599289640401 then (if 0 ≤ (wrap64 ((wrap64 (x41_2 * a1)) + x37_1)) then (if (wrap64 ((wrap64 (x41_2 * a1)) + x37_1)) < (t277.length : Int) then (if x10_2.length < 17592186044416 then (impl_StackState.l1 k2 a0 a1 t277 (x10_2 ++ [rd t277 (wrap64 ((wrap64 (x41_2 * a1)) + x37_1))]) x37_1 a1 x37_1 a0 (wrap64 (x41_2 + 1)) t280 (x284001_2 ++ [(⟨t284, (⟨t287, t288, (⟨t289, t290, t291⟩ : S94), (⟨t292, t293, t294⟩ : S94)⟩ : S118)⟩ : S121)])) else (none)) else (none)) else (none)) else (none)) = some (r1, r2, r3, r4) := H
                  have A21 := Aside0.mk A210
                  clear A210
                  by_cases c22 : x284001_2.length < 1599289640401
                  · rw [if_pos c22] at H
                    have LMc22 := Aside0.mk c22
                    clear c22
                    obtain ⟨y295, hy295⟩ : ∃ y_ : List (S121), y_ = (x284001_2 ++ [(⟨t284, (⟨t287, t288, (⟨t289, t290, t291⟩ : S94), (⟨t292, t293, t294⟩ : S94)⟩ : S118)⟩ : S121)]) := ⟨_, rfl⟩
                    replace H : (if 0 ≤ (wrap64 ((wrap64 (x41_2 * a1)) + x37_1)) then (if (wrap64 ((wrap64 (x41_2 * a1)) + x37_1)) < (t277.length : Int) then (if x10_2.length < 17592186044416 then (impl_StackState.l1 k2 a0 a1 t277 (x10_2 ++ [rd t277 (wrap64 ((wrap64 (x41_2 * a1)) + x37_1))]) x37_1 a1 x37_1 a0 (wrap64 (x41_2 + 1)) t280 y295) else (none)) else (none)) else (none)) = some (r1, r2, r3, r4) := by first | (rw [hy295]; with_reducible exact H) | (have H2_ := (Option.bind_some _ _).symm.trans H; rw [hy295]; with_reducible exact H2_) | (have H2_ := (Option.bind_some _ _).symm.trans H; with_reducible exact H2_) | with_reducible exact H | (rw [hy295]; exact H) | exact H
                    have Ny295 := Aside0.mk hy295
                    clear hy295
                    obtain ⟨ji23, hji23⟩ : ∃ j_ : Int, (wrap64 ((wrap64 (x41_2 * a1)) + x37_1)) = j_ := ⟨_, rfl⟩
                    replace H : (if 0 ≤ (ji23) then (if (ji23) < (t277.length : Int) then (if x10_2.length < 17592186044416 then (impl_StackState.l1 k2 a0 a1 t277 (x10_2 ++ [rd t277 (ji23)]) x37_1 a1 x37_1 a0 (wrap64 (x41_2 + 1)) t280 y295) else (none)) else (none)) else (none)) = some (r1, r2, r3, r4) := by first | (rw [hji23] at H; exact H) | (simp only [hji23] at H ⊢; exact H)
                    (try rw [hji23] at A20)
                    (try rw [hji23] at A21)
                    have hji23w : (IntKind.i64.wrap ((wrap64 (x41_2 * a1)) + x37_1)) = ji23 := (i64_w _).trans hji23
                    by_cases c24 : 0 ≤ (ji23)
                    · rw [if_pos c24] at H
                      have c24b0 : decide (0 ≤ (ji23)) = true := decide_eq_true c24
                      clear c24
                      by_cases c25 : (ji23) < (t277.length : Int)
                      · rw [if_pos c25] at H
                        have c25b0 : decide ((ji23) < (t277.length : Int)) = true := decide_eq_true c25
                        clear c25
                        by_cases c26 : x10_2.length < 17592186044416
                        · rw [if_pos c26] at H
                          have LMc26 := Aside0.mk c26
                          clear c26
                          obtain ⟨y299, hy299⟩ : ∃ y_ : List Int, y_ = (x10_2 ++ [rd t277 (ji23)]) := ⟨_, rfl⟩
                          replace H : (impl_StackState.l1 k2 a0 a1 t277 y299 x37_1 a1 x37_1 a0 (wrap64 (x41_2 + 1)) t280 y295) = some (r1, r2, r3, r4) := by first | (rw [hy299]; with_reducible exact H) | (have H2_ := (Option.bind_some _ _).symm.trans H; rw [hy299]; with_reducible exact H2_) | (have H2_ := (Option.bind_some _ _).symm.trans H; with_reducible exact H2_) | with_reducible exact H | (rw [hy299]; exact H) | exact H
                          have Ny299 := Aside0.mk hy299
                          clear hy299
                          have H' := Aside0.mk H
                          clear H
                          try go_wp2
                          replace HO_8 := Aside0.mk (Kd.R_drew HO_8.out)
                          replace HO_10 := Aside0.mk (Kd.R_drew HO_10.out)
                          replace HO_284000 := Aside0.mk (Kd.R_drew HO_284000.out)
                          replace HO_284001 := Aside0.mk (Kd.S_drew HO_284001.out)
                          replace BK274 := Aside0.mk (blk_drew BK274.out)
                          replace BK283 := Aside0.mk (blk_drew BK283.out)
                          replace HB := Aside0.mk (below_drew1 HB.out)
                          refine start_ (n := 13) (S := fun w' => w'.cell? ⟨gb283, 0, none⟩ = some (.slice Ao14 t280.length co14) ∧ w'.cell? ⟨gb283, 1, none⟩ = some (u284001) ∧ w'.cell? ⟨gb283, 2, none⟩ = some (.slice none 0 0)) (ds := [12]) #[false, false, false, false, false, false, false, false, false, false, false, false, false] (by kernel_rfl) rfl rfl ⟨(blk_cell BK283.out 0).trans rfl, (blk_cell BK283.out 1).trans rfl, (blk_cell BK283.out 2).trans rfl⟩ (fun hHeld => ?_); refine with_tabW impl_StackState.tab14 impl_StackState.bits14 (fun HT_ HW_ => ?_)
                          generalize wr.drew = w27 at HO_8 HO_10 HO_284000 HO_284001 BK274 BK283 HB hHeld ⊢
                          refine pure_ (i := 0) (N := some 44) (v := ?_) (a' := ?_) #[true, false, false, false, false, false, false, false, false, false, false, false, false] rfl rfl (any_of HT_.out (by kernel_rfl)) (fun _ _ _ h => h) (Or.inl ⟨by rfl, ?_⟩) ?_ ?_
                          rotate_left
                          · intro w'
                            go_simp
                            with_reducible rfl
                          rotate_left
                          · simp only [Act.put, List.setIfInBounds_toArray, List.set_cons_zero, List.set_cons_succ, i64_w, i32_w]
                            rfl
                          refine pure_ (i := 2) (N := some 46) (v := ?_) (a' := ?_) #[true, false, true, false, false, false, false, false, false, false, false, false, false] rfl rfl (any_of HT_.out (by kernel_rfl)) (fun _ _ _ h => h) (Or.inl ⟨by rfl, ?_⟩) ?_ ?_
                          rotate_left
                          · intro w'
                            go_simp
                            with_reducible rfl
                          rotate_left
                          · simp only [Act.put, List.setIfInBounds_toArray, List.set_cons_zero, List.set_cons_succ, i64_w, i32_w]
                            rfl
                          refine pure_ (i := 3) (N := some 47) (v := ?_) (a' := ?_) #[true, false, true, true, false, false, false, false, false, false, false, false, false] rfl rfl (any_of HT_.out (by kernel_rfl)) (fun _ _ _ h => h) (Or.inl ⟨by rfl, ?_⟩) ?_ ?_
                          rotate_left
                          · intro w'
                            go_simp
                            with_reducible rfl
                          rotate_left
                          · simp only [Act.put, List.setIfInBounds_toArray, List.set_cons_zero, List.set_cons_succ, i64_w, i32_w]
                            rfl
                          refine pure_ (i := 5) (N := some 49) (v := ?_) (a' := ?_) #[true, false, true, true, false, true, false, false, false, false, false, false, false] rfl rfl (any_of HT_.out (by kernel_rfl)) (fun _ _ _ h => h) (Or.inl ⟨by rfl, ?_⟩) ?_ ?_
                          rotate_left
                          · intro w'
                            go_simp
                            with_reducible rfl
                          rotate_left
                          · simp only [Act.put, List.setIfInBounds_toArray, List.set_cons_zero, List.set_cons_succ, i64_w, i32_w]
                            rfl
                          refine pure_ (i := 6) (N := some 50) (v := ?_) (a' := ?_) #[true, false, true, true, false, true, true, false, false, false, false, false, false] rfl rfl (any_of HT_.out (by kernel_rfl)) (fun _ _ _ h => h) (Or.inl ⟨by rfl, ?_⟩) ?_ ?_
                          rotate_left
                          · intro w'
                            go_simp
                            with_reducible rfl
                          rotate_left
                          · simp only [Act.put, List.setIfInBounds_toArray, List.set_cons_zero, List.set_cons_succ, i64_w, i32_w]
                            rfl
                          refine take_ (i := 1) (N := some 45) (v := ?_) (a' := ?_) #[true, true, true, true, false, true, true, false, false, false, false, false, false] rfl rfl (take_ofW HT_.out HW_.out (by kernel_rfl)) (fun _ _ _ h => h) (Or.inl ⟨by rfl, ?_⟩) hHeld ?_ ?_
                          rotate_left
                          · rintro w' ⟨s0, s1, s2⟩
                            go_simp
                            with_reducible rfl
                          rotate_left
                          · simp only [Act.put, List.setIfInBounds_toArray, List.set_cons_zero, List.set_cons_succ, i64_w, i32_w]
                            rfl
                          refine one_ (i := 4) (N := some 48) #[true, true, true, true, true, true, true, false, false, false, false, false, false] rfl rfl (one_of HT_.out (by kernel_rfl)) (by decide) (fun K hK => ?_)
                          refine goes_ Try.func94 (by kernel_rfl) rfl #[.int .i64 x37_1, .int .i64 x41_2, .int .i64 1, .int .i64 1] (by rfl) rfl rfl (by (try simp only [List.map_toArray, List.map_cons, List.map_nil]); first | done | rfl | (simp only [List.length_drop, List.length_take]; rfl)) ?_
                          with_reducible refine (impl_rectangle.calls x37_1 x41_2 1 1 t284 _ A20.out).mono ?_
                          rintro e w28 ⟨v285, rfl, ho0, hb⟩
                          refine ⟨_, rfl, ?_⟩
                          have HO286 := Aside0.mk (Kd.R_lower (Kd.R_new' ho0 (Kd.R_lt (ra (h := HO_284000.out)))) (below_size bw))
                          replace HO_8 := Aside0.mk (Kd.R_below (ra (h := HO_8.out)) hb)
                          replace HO_10 := Aside0.mk (Kd.R_below (ra (h := HO_10.out)) hb)
                          replace HO_284000 := Aside0.mk (Kd.R_elder' (ra (h := HO_284000.out)) (Kd.R_base ho0) hb)
                          replace HO_284001 := Aside0.mk (Kd.S_elder' (by (with_reducible repeat (first | apply Kd.S_alloc | apply Kd.S_drewN | apply Kd.S_drew)); exact HO_284001.out) (Kd.R_base ho0) hb)
                          replace BK274 := bb BK274 hb
                          replace BK283 := bb BK283 hb
                          replace HB := bs hb
                          (try clear hb)
                          (try clear hb2)
                          (try clear hk)
                          (try clear hi)
                          (try clear ho0)
                          refine hK.out _ _ ⟨(blk_cell BK283.out 0).trans rfl, (blk_cell BK283.out 1).trans rfl, (blk_cell BK283.out 2).trans rfl⟩ (fun hHeld => ?_)
                          clear hK K
                          refine norm_ (a' := ?_) ?_ ?_
                          rotate_left
                          · show Act.put _ (some 48) _ = _
                            simp only [Act.put, List.setIfInBounds_toArray, List.set_cons_zero, List.set_cons_succ, i64_w, i32_w]
                            rfl
                          refine one_ (i := 7) (N := some 51) #[true, true, true, true, true, true, true, true, false, false, false, false, false] rfl rfl (one_of HT_.out (by kernel_rfl)) (by decide) (fun K hK => ?_)
                          refine goes_ Try.func95 (by kernel_rfl) rfl #[.int .i64 x41_2, .int .i64 x37_1] (by rfl) rfl rfl (by (try simp only [List.map_toArray, List.map_cons, List.map_nil]); first | done | rfl | (simp only [List.length_drop, List.length_take]; rfl)) ?_
                          with_reducible refine (impl_squareMotion.calls k2 x41_2 x37_1 t287 t288 t289 t290 t291 t292 t293 t294 _ A21.out).mono ?_
                          rintro e w29 ⟨rfl, hb⟩
                          refine ⟨_, rfl, ?_⟩
                          replace HO_8 := Aside0.mk (Kd.R_below (ra (h := HO_8.out)) hb)
                          replace HO_10 := Aside0.mk (Kd.R_below (ra (h := HO_10.out)) hb)
                          replace HO_284000 := Aside0.mk (Kd.R_below (ra (h := HO_284000.out)) hb)
                          replace HO_284001 := Aside0.mk (Kd.S_below (by (with_reducible repeat (first | apply Kd.S_alloc | apply Kd.S_drewN | apply Kd.S_drew)); exact HO_284001.out) hb)
                          replace HO286 := Aside0.mk (Kd.R_below (ra (h := HO286.out)) hb)
                          replace BK274 := bb BK274 hb
                          replace BK283 := bb BK283 hb
                          replace HB := bs hb
                          (try clear hb)
                          (try clear hb2)
                          (try clear hk)
                          (try clear hi)
                          obtain ⟨Ao30, co30, eo30⟩ := Kd.R_slice HO286.out
                          (first | subst eo30 | (injection eo30 with f1_ f2_ f3_; have f4_ := f1_.symm; have f5_ := f3_.symm; clear f1_ f2_ f3_; subst f4_; subst f5_))
                          refine hK.out _ _ ⟨(blk_cell BK283.out 0).trans rfl, (blk_cell BK283.out 1).trans rfl, (blk_cell BK283.out 2).trans rfl⟩ (fun hHeld => ?_)
                          clear hK K
                          refine norm_ (a' := ?_) ?_ ?_
                          rotate_left
                          · show Act.put _ (some 51) _ = _
                            simp only [Act.put, List.setIfInBounds_toArray, List.set_cons_zero, List.set_cons_succ, i64_w, i32_w]
                            rfl
                          refine pure_ (i := 8) (N := some 52) (v := ?_) (a' := ?_) #[true, true, true, true, true, true, true, true, true, false, false, false, false] rfl rfl (any_of HT_.out (by kernel_rfl)) (fun _ _ _ h => h) (Or.inl ⟨by rfl, ?_⟩) ?_ ?_
                          rotate_left
                          · intro w'
                            go_simp
                            with_reducible rfl
                          rotate_left
                          · simp only [Act.put, List.setIfInBounds_toArray, List.set_cons_zero, List.set_cons_succ, i64_w, i32_w]
                            rfl
                          refine one_ (i := 9) (N := some 53) #[true, true, true, true, true, true, true, true, true, true, false, false, false] rfl rfl (one_of HT_.out (by kernel_rfl)) (by decide) (fun K hK => ?_)
                          refine value_ (w1 := ?_) (v := ?_) (by rfl) rfl ?_ ?_
                          rotate_left 2
                          · go_simp
                            constructor
                            · rfl
                            · rfl
                          refine hK.out _ _ ⟨(blk_cell (blk_alloc BK283.out _) 0).trans rfl, (blk_cell (blk_alloc BK283.out _) 1).trans rfl, (blk_cell (blk_alloc BK283.out _) 2).trans rfl⟩ (fun hHeld => ?_)
                          clear hK K
                          refine norm_ (a' := ?_) ?_ ?_
                          rotate_left
                          · show Act.put _ (some 53) _ = _
                            simp only [Act.put, List.setIfInBounds_toArray, List.set_cons_zero, List.set_cons_succ, i64_w, i32_w]
                            rfl
                          refine one_ (i := 10) (N := some 54) #[true, true, true, true, true, true, true, true, true, true, true, false, false] rfl rfl (one_of HT_.out (by kernel_rfl)) (by decide) (fun K hK => ?_)
                          refine Kd.S_append_step k121 (w0 := w) w.heap.size (by rfl) (.tmp 45) (.tmp 53) 63 121 (.agg #[(.slice none 0 0), (.int .i64 0), (.bool false), (.int .i64 0), (.int .i64 0), (.int .i64 0), (.int .i64 0), (.int .i64 0), (.int .i64 0)]) 88 rfl Try.underlying63 info121 rfl (by decide) (by omega) u284001 x284001_2 (⟨t284, (⟨t287, t288, (⟨t289, t290, t291⟩ : S94), (⟨t292, t293, t294⟩ : S94)⟩ : S118)⟩ : S121) [.slice Ao30 t284.length co30, .int .i64 t287, .bool t288, .int .i64 t289, .int .i64 t290, .int .i64 t291, .int .i64 t292, .int .i64 t293, .int .i64 t294] (fun k_ => some k_ ≠ (.slice Ao14 t280.length co14 : Value).ownBlock) (fun k_ => some k_ = (.slice Ao30 t284.length co30 : Value).ownBlock) rfl rfl ?aP (fun k_ hk_ => ((Kd.R_mono (ok' := fun k_ => ((fun k_ => some k_ ≠ (.slice Ao14 t280.length co14 : Value).ownBlock)) k_ ∧ some k_ ≠ (u284001 : Value).ownBlock) (Kd.R_apart' (HO286.out) (Kd.S_typed HO_284001.out) (by decide)) (fun k_ hk => ⟨hk.1.2, hk.2⟩))).1 k_ hk_.symm) ?aF ?aO ?aB ?aS ?aL ?_
                          (case aP => exact k121_mkM _ _ _ (⟨t284, (⟨t287, t288, (⟨t289, t290, t291⟩ : S94), (⟨t292, t293, t294⟩ : S94)⟩ : S118)⟩ : S121) (Kd.R_mono (Kd.R_tight rfl (Kd.R_mono (ok' := fun k_ => ((fun k_ => some k_ ≠ (.slice Ao14 t280.length co14 : Value).ownBlock)) k_ ∧ some k_ ≠ (u284001 : Value).ownBlock) (Kd.R_apart' (HO286.out) (Kd.S_typed HO_284001.out) (by decide)) (fun k_ hk => ⟨hk.1.2, hk.2⟩))) (fun _ h_ => h_)))
                          (case aB => exact bw)
                          (case aF => exact (fun k_ hk => Kd.fresh' (Kd.R_lt (ra (h := HO_284000.out))) k_ hk))
                          (case aO => exact (by (with_reducible repeat (first | apply Kd.S_alloc | apply Kd.S_drewN | apply Kd.S_drew)); exact Kd.S_mono HO_284001.out (fun k_ hk => ⟨hk.1, fun e_ => hk.2 e_⟩)))
                          (case aS => exact (below_size bw))
                          (case aL => have := LMc22.out; omega)
                          intro v296 w31 ho hb hg hat
                          rw [← Ny295.out] at ho
                          have HO297 := Aside0.mk (ho)
                          replace HO_8 := Aside0.mk (Kd.R_over' (ra (h := HO_8.out)) (Kd.S_typed (by (with_reducible repeat (first | apply Kd.S_alloc | apply Kd.S_drewN | apply Kd.S_drew)); exact HO_284001.out)) (by decide) hg)
                          replace HO_10 := Aside0.mk (Kd.R_over' (ra (h := HO_10.out)) (Kd.S_typed (by (with_reducible repeat (first | apply Kd.S_alloc | apply Kd.S_drewN | apply Kd.S_drew)); exact HO_284001.out)) (by decide) hg)
                          replace HO_284000 := Aside0.mk (Kd.R_over' (ra (h := HO_284000.out)) (Kd.S_typed (by (with_reducible repeat (first | apply Kd.S_alloc | apply Kd.S_drewN | apply Kd.S_drew)); exact HO_284001.out)) (by decide) hg)
                          replace BK274 := Aside0.mk (blk_grown (g := gb274) (o := .cells #[.slice none 0 0, .slice none 0 0, .slice none 0 0] 65 (0, 0)) (by refine bk (h := ?_); exact BK274.out) hg (Kd.S_ne HO_284001.out BK274.out (by decide)))
                          replace BK283 := Aside0.mk (blk_grown (g := gb283) (o := .cells #[.slice Ao14 t280.length co14, u284001, .slice none 0 0] 65 (0, 0)) (by refine bk (h := ?_); exact BK283.out) hg (Kd.S_ne HO_284001.out BK283.out (by decide)))
                          replace HB := Aside0.mk (hb)
                          clear HO_284001 HO286
                          clear ho hb hg hat
                          obtain ⟨Ao32, co32, eo32⟩ := Kd.S_slice HO297.out
                          (first | subst eo32 | (injection eo32 with f1_ f2_ f3_; have f4_ := f1_.symm; have f5_ := f3_.symm; clear f1_ f2_ f3_; subst f4_; subst f5_))
                          refine hK.out _ _ ⟨(blk_cell BK283.out 0).trans rfl, (blk_cell BK283.out 1).trans rfl, (blk_cell BK283.out 2).trans rfl⟩ (fun hHeld => ?_)
                          clear hK K
                          refine norm_ (a' := ?_) ?_ ?_
                          rotate_left
                          · show Act.put _ (some 54) _ = _
                            simp only [Act.put, List.setIfInBounds_toArray, List.set_cons_zero, List.set_cons_succ, i64_w, i32_w]
                            rfl
                          refine pure_ (i := 11) (N := some 55) (v := ?_) (a' := ?_) #[true, true, true, true, true, true, true, true, true, true, true, true, false] rfl rfl (any_of HT_.out (by kernel_rfl)) (fun _ _ _ h => h) (Or.inl ⟨by rfl, ?_⟩) ?_ ?_
                          rotate_left
                          · intro w'
                            go_simp
                            with_reducible rfl
                          rotate_left
                          · simp only [Act.put, List.setIfInBounds_toArray, List.set_cons_zero, List.set_cons_succ, i64_w, i32_w]
                            rfl
                          refine last_ (i := 12) (N := none) #[true, true, true, true, true, true, true, true, true, true, true, true, true] rfl rfl (one_of HT_.out (by kernel_rfl)) (by decide) (fun K hK => ?_)
                          have hs33 : w31.cell? ⟨gb283, 1, none⟩ = some (u284001) := (blk_cell BK283.out 1).trans rfl
                          have hfs33 := blk_frozen BK283.out 1
                          have hns33_0 := NB274_283.out
                          have hms33_0 := NB283_274.out
                          refine skip_ (w1 := ?_) (by rfl) rfl ?_ ?_
                          rotate_left
                          · go_simp
                            rfl
                          refine hK.out _ _ ?_
                          clear hK K
                          refine done_ (done_of HT_.out (by kernel_rfl)) ?_
                          obtain ⟨Ao34, co34, eo34⟩ := Kd.R_slice HO_8.out
                          subst eo34
                          have p298 : 0 ≤ ((ji23) : Int) := od
                          have q298 : (ji23) < (t277.length : Int) := od
                          obtain ⟨ad298, e298, hx298_0⟩ := Kd.at_int (Kd.R_reads' HO_8.out).2.2 (ji23) p298 q298
                          cases e298
                          have hn298_0 : ad298.block ≠ gb283 := Kd.own_blk (Kd.R_ne HO_8.out BK283.out (by decide))
                          replace hx298_0 := cf ⟨gb283, 1, none⟩ (.slice Ao32 y295.length co32) hn298_0 hx298_0
                          clear hn298_0
                          replace p298 := eq_true p298
                          replace q298 := eq_true q298
                          try go_wp2_with (first | ((with_reducible refine gate_builtin (b := .append) (xs := #[.tmp 56, .tmp 65]) rfl ?_); at_builtin; refine Kd.R_append (Kd.int .i64) (w0 := w) w.heap.size rfl (.tmp 56) (.tmp 65) 24 2 (.int .i64 0) 8 rfl Try.underlying24 info2 rfl (by decide) (by omega) u10 x10_2 (rd t277 (ji23)) [.int .i64 (rd t277 (ji23))] (fun k_ => some k_ ≠ (.slice (some ad298) t277.length co34 : Value).ownBlock) (fun _ => False) rfl (by first | (go_simp; done) | (go_simp; rfl)) ?aP (fun _ hk => hk.elim) ?aF ?aO ?aB ?aS ?aL ?_; (case aP => exact rfl); (case aB => exact bw); (case aF => exact (fun k_ hk => Kd.fresh' (Kd.R_lt (by refine ra (h := ?_); exact (Kd.R_mono (Kd.R_far (p := ⟨gb283, 1, none⟩) (Kd.R_types HO_8.out BK283.out (by decide)) (fun _ hk => hk.2) (.slice Ao32 y295.length co32)) (fun _ h_ => h_.1)))) k_ hk)); (case aO => exact (by refine ra (h := ?_); exact Kd.R_mono (Kd.R_far (p := ⟨gb283, 1, none⟩) (Kd.R_types HO_10.out BK283.out (by decide)) (fun _ hk => hk.2) (.slice Ao32 y295.length co32)) (fun _ hk => hk.1))); (case aS => exact (below_size bw)); (case aL => have := LMc26.out; omega); intro v300 w35 ho hb hg hat; rw [← Ny299.out] at ho; have HO301 := Aside0.mk (ho); replace HO_8 := Aside0.mk (Kd.R_after (ok := (fun _ => True)) (by refine ra (h := ?_); exact Kd.R_mono (Kd.R_far (p := ⟨gb283, 1, none⟩) (Kd.R_types HO_8.out BK283.out (by decide)) (fun _ hk => hk.2) (.slice Ao32 y295.length co32)) (fun _ hk => ⟨trivial, hk.1⟩)) hg hat); replace HO_284000 := Aside0.mk (Kd.R_over' (by refine ra (h := ?_); exact (Kd.R_mono (Kd.R_far (p := ⟨gb283, 1, none⟩) (Kd.R_types HO_284000.out BK283.out (by decide)) (fun _ hk => hk.2) (.slice Ao32 y295.length co32)) (fun _ h_ => h_.1))) (Kd.R_typed (by refine ra (h := ?_); exact (Kd.R_mono (Kd.R_far (p := ⟨gb283, 1, none⟩) (Kd.R_types HO_10.out BK283.out (by decide)) (fun _ hk => hk.2) (.slice Ao32 y295.length co32)) (fun _ h_ => h_.1)))) (by decide) hg); replace BK274 := Aside0.mk (blk_grown (g := gb274) (o := .cells #[.slice none 0 0, .slice none 0 0, .slice none 0 0] 65 (0, 0)) (by refine bk (h := ?_); refine blk_far ?_ NB274_283.out _; refine bk (h := ?_); exact BK274.out) hg (Kd.R_ne HO_10.out BK274.out (by decide))); replace HO297 := Aside0.mk (Kd.S_over' (by (with_reducible repeat (first | apply Kd.S_alloc | apply Kd.S_drewN | apply Kd.S_drew)); exact (Kd.S_mono (Kd.S_far (p := ⟨gb283, 1, none⟩) (Kd.S_types HO297.out BK283.out (by decide)) (fun _ hk => hk.2) (.slice Ao32 y295.length co32)) (fun _ h_ => h_.1))) (Kd.R_typed (by refine ra (h := ?_); exact (Kd.R_mono (Kd.R_far (p := ⟨gb283, 1, none⟩) (Kd.R_types HO_10.out BK283.out (by decide)) (fun _ hk => hk.2) (.slice Ao32 y295.length co32)) (fun _ h_ => h_.1)))) (by decide) hg); replace BK283 := Aside0.mk (blk_grown (g := gb283) (o := .cells #[.slice Ao14 t280.length co14, .slice Ao32 y295.length co32, .slice none 0 0] 65 (0, 0)) (by refine bk (h := ?_); refine blk_put (cs := #[.slice Ao14 t280.length co14, u284001, .slice none 0 0]) ?_ 1 _ rfl; refine bk (h := ?_); exact BK283.out) hg (Kd.R_ne HO_10.out BK283.out (by decide))); replace HB := Aside0.mk (hb); clear HO_10; clear ho hb hg hat))
                          go_roundg k2
                          case measure => have := HK1.out; have := HK2.out; omega
                          case rel => exact ⟨(y299), (wrap64 (x41_2 + 1)), (y295), (.slice Ao32 y295.length co32), (by first | rfl | (simp; done) | (simp [*]; done)), H', ⟨by have := HK1.out; have := HK2.out; omega⟩, ⟨by refine ra (h := ?_); exact Kd.R_mono HO_8.out (fun _ hk => hk.2)⟩, ⟨by refine ra (h := ?_); exact HO301.out⟩, ⟨by refine ra (h := ?_); exact Kd.R_mono HO_284000.out (fun _ hk => trivial)⟩, ⟨by (with_reducible repeat (first | apply Kd.S_alloc | apply Kd.S_drewN | apply Kd.S_drew)); exact HO297.out⟩, ⟨by refine bk (h := ?_); exact BK274.out⟩, ⟨by refine bk (h := ?_); exact BK283.out⟩, ⟨bw⟩⟩
                        · rw [if_neg c26] at H
                          exact absurd H (by simp)
                      · rw [if_neg c25] at H
                        exact absurd H (by simp)
                    · rw [if_neg c24] at H
                      exact absurd H (by simp)
                  · rw [if_neg c22] at H
                    exact absurd H (by simp)
                · rw [if_neg c19] at H
                  have c19b0 : decide (x41_2 < a0) = false := decide_eq_false c19
                  clear c19
                  have H' := Aside0.mk H
                  clear H
                  go_wp2
                  go_roundg k2
                  case measure => have := HK1.out; have := HK2.out; omega
                  case rel => exact ⟨(x10_2), (wrap64 (x37_1 + 1)), (x284001_2), (u284001), (by first | rfl | (simp; done) | (simp [*]; done)), H', ⟨by have := HK1.out; have := HK2.out; omega⟩, ⟨by refine ra (h := ?_); exact HO_8.out⟩, ⟨by refine ra (h := ?_); exact HO_10.out⟩, ⟨by refine ra (h := ?_); exact HO_284000.out⟩, ⟨by (with_reducible repeat (first | apply Kd.S_alloc | apply Kd.S_drewN | apply Kd.S_drew)); exact HO_284001.out⟩, ⟨by refine bk (h := ?_); exact BK274.out⟩, ⟨by refine bk (h := ?_); exact BK283.out⟩, ⟨bw⟩⟩
          · rw [if_neg c18] at H
            have c18b0 : decide (x37_1 < a1) = false := decide_eq_false c18
            clear c18
            have H' := Aside0.mk H
            clear H
            obtain ⟨Ao36, co36, eo36⟩ := Kd.R_slice HO_10.out
            subst eo36
            go_wp2
            go_loopg [71] k1 (fun kq v71 w' => ∃ (x71_2 : Int) (x284002_2 : List Int) (u284002 : Value), v71 = .int .i64 x71_2 ∧ Aside0 (impl_StackState.l2 kq x10_1 x10_1 (x10_1.length : Int) x71_2 t280 x284001_1 x284002_2 = some (r1, r2, r3, r4)) ∧ Aside0 (kq ≤ k1) ∧ Aside0 (Kd.R (Kd.int .i64) 2 w' w.heap.size (fun k_ => some k_ ≠ (u284002 : Value).ownBlock) (.slice Ao36 x10_1.length co36) x10_1) ∧ Aside0 (Kd.R (Kd.int .i64) 2 w' w.heap.size (fun k_ => some k_ ≠ (u284002 : Value).ownBlock) (.slice Ao36 x10_1.length co36) x10_1) ∧ Aside0 (Kd.R k130 130 w' w.heap.size (fun _ => True) (.slice Ao14 t280.length co14) t280) ∧ Aside0 (Kd.S k121 121 w' w.heap.size (fun k_ => some k_ ≠ ((.slice Ao14 t280.length co14) : Value).ownBlock) u284001 x284001_1) ∧ Aside0 (Kd.R (Kd.int .i64) 2 w' w.heap.size (fun k_ => some k_ ≠ ((.slice Ao36 x10_1.length co36) : Value).ownBlock ∧ some k_ ≠ ((.slice Ao36 x10_1.length co36) : Value).ownBlock) u284002 x284002_2) ∧ Aside0 (w'.heap[gb274]? = some (.cells #[(.slice none 0 0), (.slice none 0 0), (.slice none 0 0)] 65 (0, 0))) ∧ Aside0 (w'.heap[gb283]? = some (.cells #[(.slice Ao14 t280.length co14), u284001, u284002] 65 (0, 0))) ∧ Aside0 (Below w.heap.size w w'))
            case atStart => exact ⟨(0), (([] : List Int)), (.slice none 0 0), (by first | rfl | (simp; done) | (simp [*]; done)), H', ⟨Nat.le_refl _⟩, ⟨by refine ra (h := ?_); exact Kd.R_mono HO_10.out (fun _ hk => (by simp [Value.ownBlock]))⟩, ⟨by refine ra (h := ?_); exact Kd.R_mono HO_10.out (fun _ hk => (by simp [Value.ownBlock]))⟩, ⟨by refine ra (h := ?_); exact HO_284000.out⟩, ⟨by (with_reducible repeat (first | apply Kd.S_alloc | apply Kd.S_drewN | apply Kd.S_drew)); exact HO_284001.out⟩, ⟨by first | exact Kd.R_nil _ _ _ _ _ | exact Kd.N_nil _ _ _ _ _ | exact Kd.V_nil _ _ _ _ _ | exact Kd.Q_nil _ _ _ _ _ | exact Kd.S_nil _ _ _ _ _⟩, ⟨by refine bk (h := ?_); exact BK274.out⟩, ⟨by refine bk (h := ?_); exact BK283.out⟩, ⟨bw⟩⟩
            case round =>
              clear H'
              try clear c1
              try clear c2
              try clear p2
              try clear q2
              try clear hx2
              try clear c4
              try clear c5
              try clear p6
              try clear c7
              try clear c8
              try clear c9
              try clear c16
              try clear c18
              try clear c18b0
              try clear c19
              try clear c19b0
              try clear c22
              try clear c24
              try clear c24b0
              try clear c25
              try clear c25b0
              try clear c26
              try clear p29
              try clear q29
              try clear hx29
              try clear z17_0 z17_1 z17_2 y17_0 y17_1 y17_2
              try clear hx298_0
              try clear p2
              try clear p298
              try clear q298
              obtain ⟨x71_2, x284002_2, u284002, rfl, HA, HK2, HO_10, HO_69, HO_284000, HO_284001, HO_284002, BK274, BK283, HB⟩ := hrel
              cases gk with
              | zero => exact absurd HA.out (by simp [impl_StackState.l2])
              | succ k2 =>
                have H := HA.out
                clear HA
                simp only [impl_StackState.l2] at H
                by_cases c37 : x71_2 < (x10_1.length : Int)
                · rw [if_pos c37] at H
                  have c37b0 : decide (x71_2 < (x10_1.length : Int)) = true := decide_eq_true c37
                  clear c37
                  by_cases c38 : 0 ≤ x71_2
                  · rw [if_pos c38] at H
                    have c38b0 : decide (0 ≤ x71_2) = true := decide_eq_true c38
                    clear c38
                    by_cases c39 : x71_2 < (x10_1.length : Int)
                    · rw [if_pos c39] at H
                      have c39b0 : decide (x71_2 < (x10_1.length : Int)) = true := decide_eq_true c39
                      clear c39
                      have H' := Aside0.mk H
                      clear H
                      have p302 : 0 ≤ (x71_2 : Int) := od
                      have q302 : x71_2 < (x10_1.length : Int) := od
                      obtain ⟨ad302, e302, hx302_0⟩ := Kd.at_int (Kd.R_reads' HO_69.out).2.2 x71_2 p302 q302
                      cases e302
                      replace p302 := eq_true p302
                      replace q302 := eq_true q302
                      go_wp2
                      go_loopg [77] k2 (fun kq v77 w' => ∃ (x77_3 : Int) (x284002_3 : List Int) (u284002 : Value), v77 = .int .i64 x77_3 ∧ Aside0 (impl_StackState.l3 kq x10_1 (rd x10_1 x71_2) x10_1 (x10_1.length : Int) x71_2 x10_1 (x10_1.length : Int) x77_3 t280 x284001_1 x284002_3 = some (r1, r2, r3, r4)) ∧ Aside0 (kq ≤ k2) ∧ Aside0 (Kd.R (Kd.int .i64) 2 w' w.heap.size (fun k_ => some k_ ≠ (u284002 : Value).ownBlock) (.slice (some ad302) x10_1.length co36) x10_1) ∧ Aside0 (Kd.R (Kd.int .i64) 2 w' w.heap.size (fun k_ => some k_ ≠ (u284002 : Value).ownBlock) (.slice (some ad302) x10_1.length co36) x10_1) ∧ Aside0 (Kd.R (Kd.int .i64) 2 w' w.heap.size (fun k_ => some k_ ≠ (u284002 : Value).ownBlock) (.slice (some ad302) x10_1.length co36) x10_1) ∧ Aside0 (Kd.R k130 130 w' w.heap.size (fun _ => True) (.slice Ao14 t280.length co14) t280) ∧ Aside0 (Kd.S k121 121 w' w.heap.size (fun k_ => some k_ ≠ ((.slice Ao14 t280.length co14) : Value).ownBlock) u284001 x284001_1) ∧ Aside0 (Kd.R (Kd.int .i64) 2 w' w.heap.size (fun k_ => some k_ ≠ ((.slice (some ad302) x10_1.length co36) : Value).ownBlock ∧ some k_ ≠ ((.slice (some ad302) x10_1.length co36) : Value).ownBlock ∧ some k_ ≠ ((.slice (some ad302) x10_1.length co36) : Value).ownBlock) u284002 x284002_3) ∧ Aside0 (w'.heap[gb274]? = some (.cells #[(.slice none 0 0), (.slice none 0 0), (.slice none 0 0)] 65 (0, 0))) ∧ Aside0 (w'.heap[gb283]? = some (.cells #[(.slice Ao14 t280.length co14), u284001, u284002] 65 (0, 0))) ∧ Aside0 (Below w.heap.size w w'))
                      case atStart => exact ⟨(0), (x284002_2), (u284002), (by first | rfl | (simp; done) | (simp [*]; done)), H', ⟨Nat.le_refl _⟩, ⟨by refine ra (h := ?_); exact HO_10.out⟩, ⟨by refine ra (h := ?_); exact HO_69.out⟩, ⟨by refine ra (h := ?_); exact HO_10.out⟩, ⟨by refine ra (h := ?_); exact HO_284000.out⟩, ⟨by (with_reducible repeat (first | apply Kd.S_alloc | apply Kd.S_drewN | apply Kd.S_drew)); exact HO_284001.out⟩, ⟨by refine ra (h := ?_); exact Kd.R_mono HO_284002.out (fun _ hk => ⟨hk.1, ⟨hk.2, hk.1⟩⟩)⟩, ⟨by refine bk (h := ?_); exact BK274.out⟩, ⟨by refine bk (h := ?_); exact BK283.out⟩, ⟨bw⟩⟩
                      case round =>
                        clear H'
                        try clear c1
                        try clear c2
                        try clear p2
                        try clear q2
                        try clear hx2
                        try clear c3
                        try clear p3
                        try clear q3
                        try clear hx3
                        try clear c4
                        try clear c5
                        try clear p6
                        try clear c7
                        try clear c8
                        try clear c9
                        try clear c16
                        try clear c18
                        try clear c18b0
                        try clear c19
                        try clear c19b0
                        try clear c22
                        try clear c24
                        try clear c24b0
                        try clear c25
                        try clear c25b0
                        try clear c26
                        try clear p29
                        try clear q29
                        try clear hx29
                        try clear p30
                        try clear q30
                        try clear hx30
                        try clear c37
                        try clear c37b0
                        try clear c38
                        try clear c38b0
                        try clear c39
                        try clear c39b0
                        try clear z17_0 z17_1 z17_2 y17_0 y17_1 y17_2
                        try clear hx298_0
                        try clear hx302_0
                        try clear p2
                        try clear p29
                        try clear p298
                        try clear p302
                        try clear p6
                        try clear q2
                        try clear q29
                        try clear q298
                        try clear q302
                        obtain ⟨x77_3, x284002_3, u284002, rfl, HA, HK3, HO_10, HO_69, HO_75, HO_284000, HO_284001, HO_284002, BK274, BK283, HB⟩ := hrel
                        cases gk with
                        | zero => exact absurd HA.out (by simp [impl_StackState.l3])
                        | succ k3 =>
                          have H := HA.out
                          clear HA
                          simp only [impl_StackState.l3] at H
                          by_cases c40 : x77_3 < (x10_1.length : Int)
                          · rw [if_pos c40] at H
                            have c40b0 : decide (x77_3 < (x10_1.length : Int)) = true := decide_eq_true c40
                            clear c40
                            by_cases c41 : 0 ≤ x77_3
                            · rw [if_pos c41] at H
                              have c41b0 : decide (0 ≤ x77_3) = true := decide_eq_true c41
                              clear c41
                              by_cases c42 : x77_3 < (x10_1.length : Int)
                              · rw [if_pos c42] at H
                                have c42b0 : decide (x77_3 < (x10_1.length : Int)) = true := decide_eq_true c42
                                clear c42
                                replace H := Option.bind_eq_some_iff.mp H
                                obtain ⟨t304, A430, H⟩ := H
                                replace H : (if x284002_3.length < 17592186044416 then (impl_StackState.l3 k3 x10_1 (rd x10_1 x71_2) x10_1 (x10_1.length : Int) x71_2 x10_1 (x10_1.length : Int) (wrap64 (x77_3 + 1)) t280 x284001_1 (x284002_3 ++ [t304])) else (none)) = some (r1, r2, r3, r4) := H
                                have A43 := Aside0.mk A430
                                clear A430
                                by_cases c44 : x284002_3.length < 17592186044416
                                · rw [if_pos c44] at H
                                  have LMc44 := Aside0.mk c44
                                  clear c44
                                  obtain ⟨y305, hy305⟩ : ∃ y_ : List Int, y_ = (x284002_3 ++ [t304]) := ⟨_, rfl⟩
                                  replace H : (impl_StackState.l3 k3 x10_1 (rd x10_1 x71_2) x10_1 (x10_1.length : Int) x71_2 x10_1 (x10_1.length : Int) (wrap64 (x77_3 + 1)) t280 x284001_1 y305) = some (r1, r2, r3, r4) := by first | (rw [hy305]; with_reducible exact H) | (have H2_ := (Option.bind_some _ _).symm.trans H; rw [hy305]; with_reducible exact H2_) | (have H2_ := (Option.bind_some _ _).symm.trans H; with_reducible exact H2_) | with_reducible exact H | (rw [hy305]; exact H) | exact H
                                  have Ny305 := Aside0.mk hy305
                                  clear hy305
                                  have H' := Aside0.mk H
                                  clear H
                                  have p303 : 0 ≤ (x77_3 : Int) := od
                                  have q303 : x77_3 < (x10_1.length : Int) := od
                                  obtain ⟨ad303, e303, hx303_0⟩ := Kd.at_int (Kd.R_reads' HO_75.out).2.2 x77_3 p303 q303
                                  obtain rfl : ad302 = ad303 := (by injection e303)
                                  replace p303 := eq_true p303
                                  replace q303 := eq_true q303
                                  try go_wp2
                                  replace HO_10 := Aside0.mk (Kd.R_drew HO_10.out)
                                  replace HO_69 := Aside0.mk (Kd.R_drew HO_69.out)
                                  replace HO_75 := Aside0.mk (Kd.R_drew HO_75.out)
                                  replace HO_284000 := Aside0.mk (Kd.R_drew HO_284000.out)
                                  replace HO_284001 := Aside0.mk (Kd.S_drew HO_284001.out)
                                  replace HO_284002 := Aside0.mk (Kd.R_drew HO_284002.out)
                                  replace BK274 := Aside0.mk (blk_drew BK274.out)
                                  replace BK283 := Aside0.mk (blk_drew BK283.out)
                                  replace HB := Aside0.mk (below_drew1 HB.out)
                                  refine start_ (n := 9) (S := fun w' => w'.cell? ⟨gb283, 0, none⟩ = some (.slice Ao14 t280.length co14) ∧ w'.cell? ⟨gb283, 1, none⟩ = some (u284001) ∧ w'.cell? ⟨gb283, 2, none⟩ = some (u284002)) (ds := [8]) #[false, false, false, false, false, false, false, false, false] (by kernel_rfl) rfl rfl ⟨(blk_cell BK283.out 0).trans rfl, (blk_cell BK283.out 1).trans rfl, (blk_cell BK283.out 2).trans rfl⟩ (fun hHeld => ?_); refine with_tabW impl_StackState.tab24 impl_StackState.bits24 (fun HT_ HW_ => ?_)
                                  generalize wr.drew = w45 at HO_10 HO_69 HO_75 HO_284000 HO_284001 HO_284002 BK274 BK283 HB hHeld ⊢
                                  refine pure_ (i := 0) (N := some 81) (v := ?_) (a' := ?_) #[true, false, false, false, false, false, false, false, false] rfl rfl (any_of HT_.out (by kernel_rfl)) (fun _ _ _ h => h) (Or.inl ⟨by rfl, ?_⟩) ?_ ?_
                                  rotate_left
                                  · intro w'
                                    go_simp
                                    with_reducible rfl
                                  rotate_left
                                  · simp only [Act.put, List.setIfInBounds_toArray, List.set_cons_zero, List.set_cons_succ, i64_w, i32_w]
                                    rfl
                                  refine pure_ (i := 2) (N := some 83) (v := ?_) (a' := ?_) #[true, false, true, false, false, false, false, false, false] rfl rfl (any_of HT_.out (by kernel_rfl)) (fun _ _ _ h => h) (Or.inl ⟨by rfl, ?_⟩) ?_ ?_
                                  rotate_left
                                  · intro w'
                                    go_simp
                                    with_reducible rfl
                                  rotate_left
                                  · simp only [Act.put, List.setIfInBounds_toArray, List.set_cons_zero, List.set_cons_succ, i64_w, i32_w]
                                    rfl
                                  refine pure_ (i := 3) (N := some 84) (v := ?_) (a' := ?_) #[true, false, true, true, false, false, false, false, false] rfl rfl (any_of HT_.out (by kernel_rfl)) (fun _ _ _ h => h) (Or.inl ⟨by rfl, ?_⟩) ?_ ?_
                                  rotate_left
                                  · intro w'
                                    go_simp
                                    with_reducible rfl
                                  rotate_left
                                  · simp only [Act.put, List.setIfInBounds_toArray, List.set_cons_zero, List.set_cons_succ, i64_w, i32_w]
                                    rfl
                                  refine take_ (i := 1) (N := some 82) (v := ?_) (a' := ?_) #[true, true, true, true, false, false, false, false, false] rfl rfl (take_ofW HT_.out HW_.out (by kernel_rfl)) (fun _ _ _ h => h) (Or.inl ⟨by rfl, ?_⟩) hHeld ?_ ?_
                                  rotate_left
                                  · rintro w' ⟨s0, s1, s2⟩
                                    go_simp
                                    with_reducible rfl
                                  rotate_left
                                  · simp only [Act.put, List.setIfInBounds_toArray, List.set_cons_zero, List.set_cons_succ, i64_w, i32_w]
                                    rfl
                                  refine one_ (i := 4) (N := some 85) #[true, true, true, true, true, false, false, false, false] rfl rfl (one_of HT_.out (by kernel_rfl)) (by decide) (fun K hK => ?_)
                                  refine goes_ Try.func96 (by kernel_rfl) rfl #[.int .i64 (rd x10_1 x71_2), .int .i64 (rd x10_1 x77_3)] (by rfl) rfl rfl (by (try simp only [List.map_toArray, List.map_cons, List.map_nil]); first | done | rfl | (simp only [List.length_drop, List.length_take]; rfl)) ?_
                                  with_reducible refine (cmp_Compare_int64.calls (rd x10_1 x71_2) (rd x10_1 x77_3) t304 _ A43.out).mono ?_
                                  rintro e w' ⟨rfl, ⟨nd, rfl⟩⟩
                                  refine ⟨_, rfl, ?_⟩
                                  refine hK.out _ _ ⟨(blk_cell BK283.out 0).trans rfl, (blk_cell BK283.out 1).trans rfl, (blk_cell BK283.out 2).trans rfl⟩ (fun hHeld => ?_)
                                  clear hK K
                                  refine norm_ (a' := ?_) ?_ ?_
                                  rotate_left
                                  · show Act.put _ (some 85) _ = _
                                    simp only [Act.put, List.setIfInBounds_toArray, List.set_cons_zero, List.set_cons_succ, i64_w, i32_w]
                                    rfl
                                  refine one_ (i := 5) (N := some 86) #[true, true, true, true, true, true, false, false, false] rfl rfl (one_of HT_.out (by kernel_rfl)) (by decide) (fun K hK => ?_)
                                  refine value_ (w1 := ?_) (v := ?_) (by rfl) rfl ?_ ?_
                                  rotate_left 2
                                  · go_simp
                                    constructor
                                    · rfl
                                    · rfl
                                  refine hK.out _ _ ⟨(blk_cell (blk_alloc BK283.out _) 0).trans rfl, (blk_cell (blk_alloc BK283.out _) 1).trans rfl, (blk_cell (blk_alloc BK283.out _) 2).trans rfl⟩ (fun hHeld => ?_)
                                  clear hK K
                                  refine norm_ (a' := ?_) ?_ ?_
                                  rotate_left
                                  · show Act.put _ (some 86) _ = _
                                    simp only [Act.put, List.setIfInBounds_toArray, List.set_cons_zero, List.set_cons_succ, i64_w, i32_w]
                                    rfl
                                  refine one_ (i := 6) (N := some 87) #[true, true, true, true, true, true, true, false, false] rfl rfl (one_of HT_.out (by kernel_rfl)) (by decide) (fun K hK => ?_)
                                  refine Kd.R_append_step (Kd.int .i64) (w0 := w) w.heap.size (by rfl) (.tmp 82) (.tmp 86) 24 2 (.int .i64 0) 8 rfl Try.underlying24 info2 rfl (by decide) (by omega) u284002 x284002_3 t304 [.int .i64 t304] (fun k_ => some k_ ≠ (.slice (some ad302) x10_1.length co36 : Value).ownBlock ∧ some k_ ≠ (.slice (some ad302) x10_1.length co36 : Value).ownBlock ∧ some k_ ≠ (.slice (some ad302) x10_1.length co36 : Value).ownBlock) (fun _ => False) rfl rfl ?aP (fun _ hk => hk.elim) ?aF ?aO ?aB ?aS ?aL ?_
                                  (case aP => exact rfl)
                                  (case aB => exact bw)
                                  (case aF => exact (fun k_ hk => ⟨Kd.fresh' (Kd.R_lt (ra (h := HO_10.out))) k_ hk, Kd.fresh' (Kd.R_lt (ra (h := HO_69.out))) k_ hk, Kd.fresh' (Kd.R_lt (ra (h := HO_75.out))) k_ hk⟩))
                                  (case aO => exact (ra (h := HO_284002.out)))
                                  (case aS => exact (below_size bw))
                                  (case aL => have := LMc44.out; omega)
                                  intro v306 w46 ho hb hg hat
                                  rw [← Ny305.out] at ho
                                  have HO307 := Aside0.mk (ho)
                                  replace HO_10 := Aside0.mk (Kd.R_after (ok := (fun _ => True)) (by refine ra (h := ?_); exact Kd.R_mono HO_10.out (fun _ hk => ⟨trivial, hk⟩)) hg hat)
                                  replace HO_69 := Aside0.mk (Kd.R_after (ok := (fun _ => True)) (by refine ra (h := ?_); exact Kd.R_mono HO_69.out (fun _ hk => ⟨trivial, hk⟩)) hg hat)
                                  replace HO_75 := Aside0.mk (Kd.R_after (ok := (fun _ => True)) (by refine ra (h := ?_); exact Kd.R_mono HO_75.out (fun _ hk => ⟨trivial, hk⟩)) hg hat)
                                  replace HO_284000 := Aside0.mk (Kd.R_over' (ra (h := HO_284000.out)) (Kd.R_typed (ra (h := HO_284002.out))) (by decide) hg)
                                  replace HO_284001 := Aside0.mk (Kd.S_over' (by (with_reducible repeat (first | apply Kd.S_alloc | apply Kd.S_drewN | apply Kd.S_drew)); exact HO_284001.out) (Kd.R_typed (ra (h := HO_284002.out))) (by decide) hg)
                                  replace BK274 := Aside0.mk (blk_grown (g := gb274) (o := .cells #[.slice none 0 0, .slice none 0 0, .slice none 0 0] 65 (0, 0)) (by refine bk (h := ?_); exact BK274.out) hg (Kd.R_ne HO_284002.out BK274.out (by decide)))
                                  replace BK283 := Aside0.mk (blk_grown (g := gb283) (o := .cells #[.slice Ao14 t280.length co14, u284001, u284002] 65 (0, 0)) (by refine bk (h := ?_); exact BK283.out) hg (Kd.R_ne HO_284002.out BK283.out (by decide)))
                                  replace HB := Aside0.mk (hb)
                                  clear HO_284002
                                  clear ho hb hg hat
                                  obtain ⟨Ao47, co47, eo47⟩ := Kd.R_slice HO307.out
                                  (first | subst eo47 | (injection eo47 with f1_ f2_ f3_; have f4_ := f1_.symm; have f5_ := f3_.symm; clear f1_ f2_ f3_; subst f4_; subst f5_))
                                  refine hK.out _ _ ⟨(blk_cell BK283.out 0).trans rfl, (blk_cell BK283.out 1).trans rfl, (blk_cell BK283.out 2).trans rfl⟩ (fun hHeld => ?_)
                                  clear hK K
                                  refine norm_ (a' := ?_) ?_ ?_
                                  rotate_left
                                  · show Act.put _ (some 87) _ = _
                                    simp only [Act.put, List.setIfInBounds_toArray, List.set_cons_zero, List.set_cons_succ, i64_w, i32_w]
                                    rfl
                                  refine pure_ (i := 7) (N := some 88) (v := ?_) (a' := ?_) #[true, true, true, true, true, true, true, true, false] rfl rfl (any_of HT_.out (by kernel_rfl)) (fun _ _ _ h => h) (Or.inl ⟨by rfl, ?_⟩) ?_ ?_
                                  rotate_left
                                  · intro w'
                                    go_simp
                                    with_reducible rfl
                                  rotate_left
                                  · simp only [Act.put, List.setIfInBounds_toArray, List.set_cons_zero, List.set_cons_succ, i64_w, i32_w]
                                    rfl
                                  refine last_ (i := 8) (N := none) #[true, true, true, true, true, true, true, true, true] rfl rfl (one_of HT_.out (by kernel_rfl)) (by decide) (fun K hK => ?_)
                                  have hs48 : w46.cell? ⟨gb283, 2, none⟩ = some (u284002) := (blk_cell BK283.out 2).trans rfl
                                  have hfs48 := blk_frozen BK283.out 2
                                  have hns48_0 := NB274_283.out
                                  have hms48_0 := NB283_274.out
                                  refine skip_ (w1 := ?_) (by rfl) rfl ?_ ?_
                                  rotate_left
                                  · go_simp
                                    rfl
                                  refine hK.out _ _ ?_
                                  clear hK K
                                  refine done_ (done_of HT_.out (by kernel_rfl)) ?_
                                  try go_wp2
                                  go_roundg k3
                                  case measure => have := HK1.out; have := HK2.out; have := HK3.out; omega
                                  case rel => exact ⟨(wrap64 (x77_3 + 1)), (y305), (.slice Ao47 y305.length co47), (by first | rfl | (simp; done) | (simp [*]; done)), H', ⟨by have := HK1.out; have := HK2.out; have := HK3.out; omega⟩, ⟨by refine ra (h := ?_); exact Kd.R_mono (Kd.R_far (p := ⟨gb283, 2, none⟩) (Kd.R_types HO_10.out BK283.out (by decide)) (fun _ hk => hk.2) (.slice Ao47 y305.length co47)) (fun _ hk => hk.1.2)⟩, ⟨by refine ra (h := ?_); exact Kd.R_mono (Kd.R_far (p := ⟨gb283, 2, none⟩) (Kd.R_types HO_69.out BK283.out (by decide)) (fun _ hk => hk.2) (.slice Ao47 y305.length co47)) (fun _ hk => hk.1.2)⟩, ⟨by refine ra (h := ?_); exact Kd.R_mono (Kd.R_far (p := ⟨gb283, 2, none⟩) (Kd.R_types HO_75.out BK283.out (by decide)) (fun _ hk => hk.2) (.slice Ao47 y305.length co47)) (fun _ hk => hk.1.2)⟩, ⟨by refine ra (h := ?_); exact Kd.R_mono (Kd.R_far (p := ⟨gb283, 2, none⟩) (Kd.R_types HO_284000.out BK283.out (by decide)) (fun _ hk => hk.2) (.slice Ao47 y305.length co47)) (fun _ hk => trivial)⟩, ⟨by (with_reducible repeat (first | apply Kd.S_alloc | apply Kd.S_drewN | apply Kd.S_drew)); exact Kd.S_mono (Kd.S_far (p := ⟨gb283, 2, none⟩) (Kd.S_types HO_284001.out BK283.out (by decide)) (fun _ hk => hk.2) (.slice Ao47 y305.length co47)) (fun _ hk => hk.1)⟩, ⟨by refine ra (h := ?_); exact Kd.R_mono (Kd.R_far (p := ⟨gb283, 2, none⟩) (Kd.R_types HO307.out BK283.out (by decide)) (fun _ hk => hk.2) (.slice Ao47 y305.length co47)) (fun _ hk => ⟨hk.1.1, ⟨hk.1.2.1, hk.1.2.2⟩⟩)⟩, ⟨by refine bk (h := ?_); refine blk_far ?_ NB274_283.out _; refine bk (h := ?_); exact BK274.out⟩, ⟨by refine bk (h := ?_); refine blk_put (cs := #[.slice Ao14 t280.length co14, u284001, u284002]) ?_ 2 _ rfl; refine bk (h := ?_); exact BK283.out⟩, ⟨bw⟩⟩
                                · rw [if_neg c44] at H
                                  exact absurd H (by simp)
                              · rw [if_neg c42] at H
                                exact absurd H (by simp)
                            · rw [if_neg c41] at H
                              exact absurd H (by simp)
                          · rw [if_neg c40] at H
                            have c40b0 : decide (x77_3 < (x10_1.length : Int)) = false := decide_eq_false c40
                            clear c40
                            have H' := Aside0.mk H
                            clear H
                            go_wp2
                            go_roundg k3
                            case measure => have := HK1.out; have := HK2.out; have := HK3.out; omega
                            case rel => exact ⟨(wrap64 (x71_2 + 1)), (x284002_3), (u284002), (by first | rfl | (simp; done) | (simp [*]; done)), H', ⟨by have := HK1.out; have := HK2.out; have := HK3.out; omega⟩, ⟨by refine ra (h := ?_); exact HO_10.out⟩, ⟨by refine ra (h := ?_); exact HO_69.out⟩, ⟨by refine ra (h := ?_); exact HO_284000.out⟩, ⟨by (with_reducible repeat (first | apply Kd.S_alloc | apply Kd.S_drewN | apply Kd.S_drew)); exact HO_284001.out⟩, ⟨by refine ra (h := ?_); exact Kd.R_mono HO_284002.out (fun _ hk => ⟨hk.1, hk.2.1⟩)⟩, ⟨by refine bk (h := ?_); exact BK274.out⟩, ⟨by refine bk (h := ?_); exact BK283.out⟩, ⟨bw⟩⟩
                    · rw [if_neg c39] at H
                      exact absurd H (by simp)
                  · rw [if_neg c38] at H
                    exact absurd H (by simp)
                · rw [if_neg c37] at H
                  have c37b0 : decide (x71_2 < (x10_1.length : Int)) = false := decide_eq_false c37
                  clear c37
                  simp only [Option.some.injEq, Prod.mk.injEq] at H
                  obtain ⟨rfl, rfl, rfl, rfl⟩ := H
                  have hnb49 := NB283_274.out
                  have hnc49 := NB274_283.out
                  obtain ⟨z50_0, z50_1, z50_2, y50_0, y50_1, y50_2⟩ := bq3 BK283
                  obtain ⟨z51_0, z51_1, z51_2, y51_0, y51_1, y51_2⟩ := bq3 BK274
                  obtain ⟨Ao52, co52, eo52⟩ := Kd.S_slice HO_284001.out
                  subst eo52
                  obtain ⟨Ao53, co53, eo53⟩ := Kd.R_slice HO_284002.out
                  subst eo53
                  go_wp2
                  refine bodyPost_ret (results_ct rfl _ _ gb274 65 #[.slice Ao14 t280.length co14, .slice Ao52 x284001_1.length co52, .slice Ao53 x284002_2.length co53] (0, 0) _ rfl (by refine bk (h := ?_); refine blk_put (cs := #[.slice Ao14 t280.length co14, .slice Ao52 x284001_1.length co52, .slice none 0 0]) ?_ 2 _ rfl; refine bk (h := ?_); refine blk_put (cs := #[.slice Ao14 t280.length co14, .slice none 0 0, .slice none 0 0]) ?_ 1 _ rfl; refine bk (h := ?_); refine blk_put (cs := #[.slice none 0 0, .slice none 0 0, .slice none 0 0]) ?_ 0 _ rfl; refine bk (h := ?_); exact BK274.out) Try.underlying65 rfl (by kernel_rfl)) rfl ?_
                  exact ⟨_, _, _, er, by refine ra (h := ?_); exact Kd.R_mono (Kd.R_far (p := ⟨gb274, 2, none⟩) (Kd.R_far (p := ⟨gb274, 1, none⟩) (Kd.R_far (p := ⟨gb274, 0, none⟩) (Kd.R_types HO_284000.out BK274.out (by decide)) (fun _ hk => hk.2) (.slice Ao14 t280.length co14)) (fun _ hk => hk.2) (.slice Ao52 x284001_1.length co52)) (fun _ hk => hk.2) (.slice Ao53 x284002_2.length co53)) (fun _ hk => trivial), by (with_reducible repeat (first | apply Kd.S_alloc | apply Kd.S_drewN | apply Kd.S_drew)); exact Kd.S_mono (Kd.S_far (p := ⟨gb274, 2, none⟩) (Kd.S_far (p := ⟨gb274, 1, none⟩) (Kd.S_far (p := ⟨gb274, 0, none⟩) (Kd.S_types HO_284001.out BK274.out (by decide)) (fun _ hk => hk.2) (.slice Ao14 t280.length co14)) (fun _ hk => hk.2) (.slice Ao52 x284001_1.length co52)) (fun _ hk => hk.2) (.slice Ao53 x284002_2.length co53)) (fun _ hk => hk.1), by refine ra (h := ?_); exact Kd.R_mono (Kd.R_far (p := ⟨gb274, 2, none⟩) (Kd.R_far (p := ⟨gb274, 1, none⟩) (Kd.R_far (p := ⟨gb274, 0, none⟩) (Kd.R_types HO_284002.out BK274.out (by decide)) (fun _ hk => hk.2) (.slice Ao14 t280.length co14)) (fun _ hk => hk.2) (.slice Ao52 x284001_1.length co52)) (fun _ hk => hk.2) (.slice Ao53 x284002_2.length co53)) (fun _ hk => trivial), bw⟩
    · replace c7 := Bool.eq_false_iff.mpr c7
      subst c7
      rw [if_neg nf] at H
      simp only [Option.some.injEq, Prod.mk.injEq] at H
      obtain ⟨rfl, rfl, rfl, rfl⟩ := H
      go_enter Try.func40, Try.ntmps40
      go_wp2_with (first | ((with_reducible refine gate_dst (N := 6) rfl ?_); refine bx #[.slice none 0 0, .slice none 0 0, .slice none 0 0] 65 ?_; intro gb274 hg w54 hbox hb; have BK274 := Aside0.mk hbox; have GW274 := bg hg; have GE274 := bg hg; replace HB := bs hb; clear hb hbox hg) | ((with_reducible refine gate_callee (f := 75) rfl ?_); refine gl (some 20) Try.func75 #[.int .i64 a0, .int .i64 a1] ?_; (with_reducible refine (impl_ValidMap.calls a0 a1 true _ A4.out).mono ?_); rintro e w' ⟨rfl, ⟨nd, rfl⟩⟩; refine ⟨_, rfl, ?_⟩; (try (rw [drewN_self w54]; generalize hq_ : World.drewN w54 _ = w54; have n0_ : Aside0 (w54.heap[gb274]? = some (.cells #[.slice none 0 0, .slice none 0 0, .slice none 0 0] 65 (0, 0))) := ⟨by rw [← hq_]; exact (by refine bk (h := ?_); exact BK274.out)⟩; have n1_ : Aside0 (Below w.heap.size w w54) := ⟨by rw [← hq_]; exact bw⟩; clear BK274 HB hq_; have BK274 := n0_; have HB := n1_; clear n0_ n1_))) | ((with_reducible refine gate_callee (f := 76) rfl ?_); refine gl (some 27) Try.func76 #[.int .i64 a0, .int .i64 a1, .slice A2 l2.length c2] ?_; (with_reducible refine (impl_isStack.calls a0 a1 _ _ l2 false _ ?side1 ?side2 A6.out).mono ?_); (case side1 => exact sd HR2); (case side2 => exact HC2.out); rintro e w55 ⟨rfl, hb⟩; refine ⟨_, rfl, ?_⟩; replace BK274 := bb BK274 hb; replace HB := bs hb; (try clear hb); (try clear hb2); (try clear hk); (try clear hi); obtain ⟨z56_0, z56_1, z56_2, y56_0, y56_1, y56_2⟩ := bq3 BK274))
      refine bodyPost_ret (results_ct rfl _ _ gb274 65 #[.slice none 0 0, .slice none 0 0, .slice none 0 0] (0, 0) _ rfl (by refine bk (h := ?_); refine blk_put (cs := #[.slice none 0 0, .slice none 0 0, .slice none 0 0]) ?_ 2 _ rfl; refine bk (h := ?_); refine blk_put (cs := #[.slice none 0 0, .slice none 0 0, .slice none 0 0]) ?_ 1 _ rfl; refine bk (h := ?_); refine blk_put (cs := #[.slice none 0 0, .slice none 0 0, .slice none 0 0]) ?_ 0 _ rfl; refine bk (h := ?_); exact BK274.out) Try.underlying65 rfl (by kernel_rfl)) rfl ?_
      exact ⟨_, _, _, er, by first | exact Kd.R_nil _ _ _ _ _ | exact Kd.N_nil _ _ _ _ _ | exact Kd.V_nil _ _ _ _ _ | exact Kd.Q_nil _ _ _ _ _ | exact Kd.S_nil _ _ _ _ _, by first | exact Kd.S_nil _ _ _ _ _ | exact Kd.N_nil _ _ _ _ _ | exact Kd.V_nil _ _ _ _ _ | exact Kd.Q_nil _ _ _ _ _ | exact Kd.R_nil _ _ _ _ _, by first | exact Kd.R_nil _ _ _ _ _ | exact Kd.N_nil _ _ _ _ _ | exact Kd.V_nil _ _ _ _ _ | exact Kd.Q_nil _ _ _ _ _ | exact Kd.S_nil _ _ _ _ _, bw⟩
  · replace c5 := Bool.eq_false_iff.mpr c5
    subst c5
    rw [if_neg nf] at H
    simp only [Option.some.injEq, Prod.mk.injEq] at H
    obtain ⟨rfl, rfl, rfl, rfl⟩ := H
    go_enter Try.func40, Try.ntmps40
    go_wp2_with (first | ((with_reducible refine gate_dst (N := 6) rfl ?_); refine bx #[.slice none 0 0, .slice none 0 0, .slice none 0 0] 65 ?_; intro gb274 hg w57 hbox hb; have BK274 := Aside0.mk hbox; have GW274 := bg hg; have GE274 := bg hg; replace HB := bs hb; clear hb hbox hg) | ((with_reducible refine gate_callee (f := 75) rfl ?_); refine gl (some 20) Try.func75 #[.int .i64 a0, .int .i64 a1] ?_; (with_reducible refine (impl_ValidMap.calls a0 a1 false _ A4.out).mono ?_); rintro e w' ⟨rfl, ⟨nd, rfl⟩⟩; refine ⟨_, rfl, ?_⟩; (try (rw [drewN_self w57]; generalize hq_ : World.drewN w57 _ = w57; have n0_ : Aside0 (w57.heap[gb274]? = some (.cells #[.slice none 0 0, .slice none 0 0, .slice none 0 0] 65 (0, 0))) := ⟨by rw [← hq_]; exact (by refine bk (h := ?_); exact BK274.out)⟩; have n1_ : Aside0 (Below w.heap.size w w57) := ⟨by rw [← hq_]; exact bw⟩; clear BK274 HB hq_; have BK274 := n0_; have HB := n1_; clear n0_ n1_)); obtain ⟨z58_0, z58_1, z58_2, y58_0, y58_1, y58_2⟩ := bq3 BK274))
    refine bodyPost_ret (results_ct rfl _ _ gb274 65 #[.slice none 0 0, .slice none 0 0, .slice none 0 0] (0, 0) _ rfl (by refine bk (h := ?_); refine blk_put (cs := #[.slice none 0 0, .slice none 0 0, .slice none 0 0]) ?_ 2 _ rfl; refine bk (h := ?_); refine blk_put (cs := #[.slice none 0 0, .slice none 0 0, .slice none 0 0]) ?_ 1 _ rfl; refine bk (h := ?_); refine blk_put (cs := #[.slice none 0 0, .slice none 0 0, .slice none 0 0]) ?_ 0 _ rfl; refine bk (h := ?_); exact BK274.out) Try.underlying65 rfl (by kernel_rfl)) rfl ?_
    exact ⟨_, _, _, er, by first | exact Kd.R_nil _ _ _ _ _ | exact Kd.N_nil _ _ _ _ _ | exact Kd.V_nil _ _ _ _ _ | exact Kd.Q_nil _ _ _ _ _ | exact Kd.S_nil _ _ _ _ _, by first | exact Kd.S_nil _ _ _ _ _ | exact Kd.N_nil _ _ _ _ _ | exact Kd.V_nil _ _ _ _ _ | exact Kd.Q_nil _ _ _ _ _ | exact Kd.R_nil _ _ _ _ _, by first | exact Kd.R_nil _ _ _ _ _ | exact Kd.N_nil _ _ _ _ _ | exact Kd.V_nil _ _ _ _ _ | exact Kd.Q_nil _ _ _ _ _ | exact Kd.S_nil _ _ _ _ _, bw⟩

end Go.Proofs.Yteadienaeapaeaa.PT
