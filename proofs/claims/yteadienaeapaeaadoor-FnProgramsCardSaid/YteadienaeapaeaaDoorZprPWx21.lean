-- Made by a program of this session (myprint.py) out of the translation.
import Derived.Test.YteadienaeapaeaaDoorZprPWx0
import Derived.Test.YteadienaeapaeaaDoorZprPWx19
import Derived.Test.YteadienaeapaeaaDoorZprPWx20
import Derived.Test.YteadienaeapaeaaDoorZprShort
namespace Go.Proofs.YteadienaeapaeaaDoor.PW
open Go.Proofs.YteadienaeapaeaaDoor.Short
open Go.Proofs.YteadienaeapaeaaDoor.Dyn
open Go.RowKit Go.Proofs.YteadienaeapaeaaDoorW.PrintWords Go.Proofs.YteadienaeapaeaaDoorW.PrintLast Go.Proofs.YteadienaeapaeaaDoorW.PrintMore
attribute [local go_sem] max2_int min2_int max_two min_two max_three min_three max_four min_four   -- for this text's walks alone
set_option linter.unusedVariables false
set_option linter.unusedSimpArgs false

/-! ### spec_l01Draw: function 153 -/
mutual
def spec_l01Draw.j0 : Nat → List Int → Int → Int → Int → Int → Int → Option (Int × Int × Int × Int × Int)
  | 0, _, _, _, _, _, _ => none
  | k + 1, x1000, x1001, x1002, x367000, x367001, x367002 => (spec_l00Src_one.f k x1000 x1001 x1002 3).bind fun bt373 => (if bt373.1 = true then ((spec_l00Src_pick.f k x1000 bt373.2.1 bt373.2.2 4).bind fun bt376 => (spec_l01Draw.j1 k x1000 bt376.2.1 bt376.2.2 x367000 x367001 bt376.1)) else (spec_l01Draw.j1 k x1000 bt373.2.1 bt373.2.2 x367000 x367001 x367002))
def spec_l01Draw.j1 : Nat → List Int → Int → Int → Int → Int → Int → Option (Int × Int × Int × Int × Int)
  | 0, _, _, _, _, _, _ => none
  | k + 1, x1000, x1001, x1002, x367000, x367001, x367002 => (spec_l00Src_one.f k x1000 x1001 x1002 12).bind fun bt379 => (if bt379.1 = true then ((spec_l00Src_among.f k x1000 bt379.2.1 bt379.2.2 (([131072, (-131072), 99999, 46341, 1] : List Int))).bind fun bt385 => ((spec_l00Src_among.f k x1000 bt385.2.1 bt385.2.2 (([131072, (-131072), (-92681), (-70710), 32768] : List Int))).bind fun bt391 => ((spec_l00Src_pick.f k x1000 bt391.2.1 bt391.2.2 11).bind fun bt394 => (spec_l01Draw.j2 k x1000 bt394.2.1 bt394.2.2 bt385.1 bt391.1 bt394.1)))) else (spec_l01Draw.j2 k x1000 bt379.2.1 bt379.2.2 x367000 x367001 x367002))
def spec_l01Draw.j2 : Nat → List Int → Int → Int → Int → Int → Int → Option (Int × Int × Int × Int × Int)
  | 0, _, _, _, _, _, _ => none
  | k + 1, x1000, x1001, x1002, x367000, x367001, x367002 => (spec_l01Num.f k x367000 x367001 x367002).bind fun bt397 => (if bt397.2.2.2 = true then (some (bt397.1, bt397.2.1, bt397.2.2.1, x1001, x1002)) else (some (1, 0, 0, x1001, x1002)))
end
def spec_l01Draw.f (k : Nat) (s0_0 : List Int) (s0_1 : Int) (s0_2 : Int) : Option (Int × Int × Int × Int × Int) := (spec_l00Src_pick.f k s0_0 s0_1 s0_2 9).bind fun bt363 => ((spec_l00Src_one.f k s0_0 bt363.2.1 bt363.2.2 3).bind fun bt367 => (if bt367.1 = true then ((spec_l00Src_pick.f k s0_0 bt367.2.1 bt367.2.2 9).bind fun bt370 => (spec_l01Draw.j0 k s0_0 bt370.2.1 bt370.2.2 (wrap64 (bt363.1 - 4)) (wrap64 (bt370.1 - 4)) 0)) else (spec_l01Draw.j0 k s0_0 bt367.2.1 bt367.2.2 (wrap64 (bt363.1 - 4)) 0 0)))
theorem spec_l01Draw.mono_l : ∀ k, (∀ y0 y1 y2 y3 y4 y5, LeO (spec_l01Draw.j0 k y0 y1 y2 y3 y4 y5) (spec_l01Draw.j0 (k + 1) y0 y1 y2 y3 y4 y5)) ∧ (∀ y0 y1 y2 y3 y4 y5, LeO (spec_l01Draw.j1 k y0 y1 y2 y3 y4 y5) (spec_l01Draw.j1 (k + 1) y0 y1 y2 y3 y4 y5)) ∧ (∀ y0 y1 y2 y3 y4 y5, LeO (spec_l01Draw.j2 k y0 y1 y2 y3 y4 y5) (spec_l01Draw.j2 (k + 1) y0 y1 y2 y3 y4 y5))
  | 0 => ⟨fun _ _ _ _ _ _ r h => by simp [spec_l01Draw.j0] at h, fun _ _ _ _ _ _ r h => by simp [spec_l01Draw.j1] at h, fun _ _ _ _ _ _ r h => by simp [spec_l01Draw.j2] at h⟩
  | k + 1 => by
    obtain ⟨ih0, ih1, ih2⟩ := spec_l01Draw.mono_l k
    refine ⟨?_, ?_, ?_⟩
    · intro y0 y1 y2 y3 y4 y5
      unfold spec_l01Draw.j0
      repeat' first
      | (with_reducible exact ih0 _ _ _ _ _ _)
      | (with_reducible exact ih1 _ _ _ _ _ _)
      | (with_reducible exact ih2 _ _ _ _ _ _)
      | (with_reducible exact spec_l00Src_among.mono _ _ _ _ _)
      | (with_reducible exact spec_l00Src_one.mono _ _ _ _ _)
      | (with_reducible exact spec_l00Src_pick.mono _ _ _ _ _)
      | (with_reducible exact spec_l01Num.mono _ _ _ _)
      | (with_reducible exact LeO.refl _)
      | (with_reducible exact LeO.none _)
      | (with_reducible refine LeO.ite ?_ ?_)
      | (with_reducible refine LeO.bind ?_ (fun _ => ?_))
      | exact ih0 _ _ _ _ _ _
      | exact ih1 _ _ _ _ _ _
      | exact ih2 _ _ _ _ _ _
      | exact spec_l00Src_among.mono _ _ _ _ _
      | exact spec_l00Src_one.mono _ _ _ _ _
      | exact spec_l00Src_pick.mono _ _ _ _ _
      | exact spec_l01Num.mono _ _ _ _
      | exact LeO.none _
      | refine LeO.ite ?_ ?_
      | refine LeO.bind ?_ (fun _ => ?_)
    · intro y0 y1 y2 y3 y4 y5
      unfold spec_l01Draw.j1
      repeat' first
      | (with_reducible exact ih0 _ _ _ _ _ _)
      | (with_reducible exact ih1 _ _ _ _ _ _)
      | (with_reducible exact ih2 _ _ _ _ _ _)
      | (with_reducible exact spec_l00Src_among.mono _ _ _ _ _)
      | (with_reducible exact spec_l00Src_one.mono _ _ _ _ _)
      | (with_reducible exact spec_l00Src_pick.mono _ _ _ _ _)
      | (with_reducible exact spec_l01Num.mono _ _ _ _)
      | (with_reducible exact LeO.refl _)
      | (with_reducible exact LeO.none _)
      | (with_reducible refine LeO.ite ?_ ?_)
      | (with_reducible refine LeO.bind ?_ (fun _ => ?_))
      | exact ih0 _ _ _ _ _ _
      | exact ih1 _ _ _ _ _ _
      | exact ih2 _ _ _ _ _ _
      | exact spec_l00Src_among.mono _ _ _ _ _
      | exact spec_l00Src_one.mono _ _ _ _ _
      | exact spec_l00Src_pick.mono _ _ _ _ _
      | exact spec_l01Num.mono _ _ _ _
      | exact LeO.none _
      | refine LeO.ite ?_ ?_
      | refine LeO.bind ?_ (fun _ => ?_)
    · intro y0 y1 y2 y3 y4 y5
      unfold spec_l01Draw.j2
      repeat' first
      | (with_reducible exact ih0 _ _ _ _ _ _)
      | (with_reducible exact ih1 _ _ _ _ _ _)
      | (with_reducible exact ih2 _ _ _ _ _ _)
      | (with_reducible exact spec_l00Src_among.mono _ _ _ _ _)
      | (with_reducible exact spec_l00Src_one.mono _ _ _ _ _)
      | (with_reducible exact spec_l00Src_pick.mono _ _ _ _ _)
      | (with_reducible exact spec_l01Num.mono _ _ _ _)
      | (with_reducible exact LeO.refl _)
      | (with_reducible exact LeO.none _)
      | (with_reducible refine LeO.ite ?_ ?_)
      | (with_reducible refine LeO.bind ?_ (fun _ => ?_))
      | exact ih0 _ _ _ _ _ _
      | exact ih1 _ _ _ _ _ _
      | exact ih2 _ _ _ _ _ _
      | exact spec_l00Src_among.mono _ _ _ _ _
      | exact spec_l00Src_one.mono _ _ _ _ _
      | exact spec_l00Src_pick.mono _ _ _ _ _
      | exact spec_l01Num.mono _ _ _ _
      | exact LeO.none _
      | refine LeO.ite ?_ ?_
      | refine LeO.bind ?_ (fun _ => ?_)
theorem spec_l01Draw.mono : ∀ a0 a1 a2 k, LeO (spec_l01Draw.f k a0 a1 a2) (spec_l01Draw.f (k + 1) a0 a1 a2) := by
  intro a0 a1 a2 k
  obtain ⟨ih0, ih1, ih2⟩ := spec_l01Draw.mono_l k
  unfold spec_l01Draw.f
  repeat' first
      | (with_reducible exact ih0 _ _ _ _ _ _)
      | (with_reducible exact ih1 _ _ _ _ _ _)
      | (with_reducible exact ih2 _ _ _ _ _ _)
      | (with_reducible exact spec_l00Src_among.mono _ _ _ _ _)
      | (with_reducible exact spec_l00Src_one.mono _ _ _ _ _)
      | (with_reducible exact spec_l00Src_pick.mono _ _ _ _ _)
      | (with_reducible exact spec_l01Num.mono _ _ _ _)
      | (with_reducible exact LeO.refl _)
      | (with_reducible exact LeO.none _)
      | (with_reducible refine LeO.ite ?_ ?_)
      | (with_reducible refine LeO.bind ?_ (fun _ => ?_))
      | exact ih0 _ _ _ _ _ _
      | exact ih1 _ _ _ _ _ _
      | exact ih2 _ _ _ _ _ _
      | exact spec_l00Src_among.mono _ _ _ _ _
      | exact spec_l00Src_one.mono _ _ _ _ _
      | exact spec_l00Src_pick.mono _ _ _ _ _
      | exact spec_l01Num.mono _ _ _ _
      | exact LeO.none _
      | refine LeO.ite ?_ ?_
      | refine LeO.bind ?_ (fun _ => ?_)
set_option maxHeartbeats 8000000 in
set_option maxRecDepth 100000 in
theorem spec_l01Draw.calls (k : Nat) (g : Nat) (s0_0 : List Int) (s0_1 : Int) (s0_2 : Int) (r1 : Int) (r2 : Int) (r3 : Int) (r4 : Int) (r5 : Int) (w0 w : World) (hI : IsS143 w0 w g s0_0 s0_1 s0_2) (hB : Below w0.heap.size w0 w) (h : spec_l01Draw.f k s0_0 s0_1 s0_2 = some (r1, r2, r3, r4, r5)) :
    Calls Tryd.prog 153 #[.pointer (some ⟨g, 0, none⟩)] w fun e w' => e = .returned (.agg #[.int .i64 r1, .int .i64 r2, .int .i64 r3]) ∧ IsS143 w0 w' g s0_0 r4 r5 ∧ Below w0.heap.size w0 w' ∧ KeepBut w w' g none := by
  have hu30 := Tryd.underlying30
  have hu211 := Tryd.underlying211
  have HI0 := Aside0.mk hI
  have HK := Aside0.mk (KeepBut.refl w g none)
  have HL := Aside0.mk hB.size
  clear hI
  have HW0 := Aside0.mk hB.size
  have HB := Aside0.mk hB
  clear hB
  have H : ((spec_l00Src_pick.f k s0_0 s0_1 s0_2 9).bind fun bt363 => ((spec_l00Src_one.f k s0_0 bt363.2.1 bt363.2.2 3).bind fun bt367 => (if bt367.1 = true then ((spec_l00Src_pick.f k s0_0 bt367.2.1 bt367.2.2 9).bind fun bt370 => (spec_l01Draw.j0 k s0_0 bt370.2.1 bt370.2.2 (wrap64 (bt363.1 - 4)) (wrap64 (bt370.1 - 4)) 0)) else (spec_l01Draw.j0 k s0_0 bt367.2.1 bt367.2.2 (wrap64 (bt363.1 - 4)) 0 0)))) = some (r1, r2, r3, r4, r5) := h
  clear h
  replace H := Option.bind_eq_some_iff.mp H
  obtain ⟨⟨t363, t364, t365⟩, A20, H⟩ := H
  replace H : ((spec_l00Src_one.f k s0_0 t364 t365 3).bind fun bt367 => (if bt367.1 = true then ((spec_l00Src_pick.f k s0_0 bt367.2.1 bt367.2.2 9).bind fun bt370 => (spec_l01Draw.j0 k s0_0 bt370.2.1 bt370.2.2 (wrap64 (t363 - 4)) (wrap64 (bt370.1 - 4)) 0)) else (spec_l01Draw.j0 k s0_0 bt367.2.1 bt367.2.2 (wrap64 (t363 - 4)) 0 0))) = some (r1, r2, r3, r4, r5) := H
  have A2 := Aside0.mk A20
  clear A20
  replace H := Option.bind_eq_some_iff.mp H
  obtain ⟨⟨t367, t368, t369⟩, A30, H⟩ := H
  replace H : (if t367 = true then ((spec_l00Src_pick.f k s0_0 t368 t369 9).bind fun bt370 => (spec_l01Draw.j0 k s0_0 bt370.2.1 bt370.2.2 (wrap64 (t363 - 4)) (wrap64 (bt370.1 - 4)) 0)) else (spec_l01Draw.j0 k s0_0 t368 t369 (wrap64 (t363 - 4)) 0 0)) = some (r1, r2, r3, r4, r5) := H
  have A3 := Aside0.mk A30
  clear A30
  have HC4 := Aside0.mk H
  clear H
  go_enter Tryd.func153, Tryd.ntmps153
  go_upto_if 11 with (first | ((with_reducible refine gate_dst (N := 2) rfl ?_); refine bx #[.int .i64 0, .int .i64 0, .int .i64 0] 30 ?_; intro gb362 hg w5 hbox hb; have BK362 := Aside0.mk hbox; have GW362 := Aside0.mk ((by rw [hg]; exact (keep_size (w := w) (g := g) (row := none) (by repeat (first | (with_reducible first | exact HK.out | apply KeepBut.set_ | apply keep_drewN | apply keep_drew | apply keep_alloc) | exact HK.out))) : w.heap.size ≤ gb362)); have GE362 := Aside0.mk ((Nat.le_trans HW0.out (by rw [hg]; exact (keep_size (w := w) (g := g) (row := none) (by repeat (first | (with_reducible first | exact HK.out | apply KeepBut.set_ | apply keep_drewN | apply keep_drew | apply keep_alloc) | exact HK.out))) : w.heap.size ≤ gb362) : w0.heap.size ≤ gb362)); have NB0_362 := Aside0.mk ((by rw [hg]; exact Nat.ne_of_lt (IsS143.lt (show IsS143 w0 _ g s0_0 s0_1 s0_2 from by repeat (first | (with_reducible first | exact HI0.out | apply IsS143.alloc | apply IsS143.drewN | apply IsS143.drew | apply IsS143.set_1 | apply IsS143.set_2) | exact HI0.out))) : g ≠ gb362)); have NB362_0 := Aside0.mk ((by rw [hg]; exact Nat.ne_of_gt (IsS143.lt (show IsS143 w0 _ g s0_0 s0_1 s0_2 from by repeat (first | (with_reducible first | exact HI0.out | apply IsS143.alloc | apply IsS143.drewN | apply IsS143.drew | apply IsS143.set_1 | apply IsS143.set_2) | exact HI0.out))) : gb362 ≠ g)); replace HK := Aside0.mk (KeepBut.trans (by repeat (first | (with_reducible first | exact HK.out | apply KeepBut.set_ | apply keep_drewN | apply keep_drew | apply keep_alloc) | exact HK.out)) (KeepBut.of_below hb g none) (.inl rfl)); replace HB := Aside0.mk (below_step (by repeat (first | (with_reducible first | exact HB.out | apply below_alloc | apply pw_below_drewN | apply below_drew1 | refine below_set ?_ (IsS143.ge HI0.out)) | exact HB.out)) hb); replace HI0 := Aside0.mk (IsS143.below (by repeat (first | (with_reducible first | exact HI0.out | apply IsS143.alloc | apply IsS143.drewN | apply IsS143.drew | apply IsS143.set_1 | apply IsS143.set_2) | exact HI0.out)) hb); clear hb hbox hg) | ((with_reducible refine gate_callee (f := 71) rfl ?_); refine gl (some 7) Tryd.func71 #[.pointer (some ⟨g, 0, none⟩), .int .i64 9] ?_; (with_reducible refine (spec_l00Src_pick.calls k g s0_0 s0_1 s0_2 9 t363 t364 t365 w0 _ ?side1 ?side2 A2.out).mono ?_); (case side1 => repeat (first | (with_reducible first | exact HI0.out | apply IsS143.alloc | apply IsS143.drewN | apply IsS143.drew | apply IsS143.set_1 | apply IsS143.set_2 | refine IsS143.far ?_ NB0_362.out _) | exact HI0.out)); (case side2 => repeat (first | (with_reducible first | exact HB.out | apply below_alloc | apply pw_below_drewN | apply below_drew1 | refine below_set ?_ (IsS143.ge HI0.out) | refine below_set ?_ GE362.out) | exact HB.out)); rintro e w6 ⟨rfl, hi, hb, hk⟩; refine ⟨_, rfl, ?_⟩; replace BK362 := Aside0.mk (KeepBut.blk hk (g' := gb362) (o := .cells #[.int .i64 0, .int .i64 0, .int .i64 0] 30 (0, 0)) (by refine bk (h := ?_); exact BK362.out) NB362_0.out (by simp)); replace HK := Aside0.mk (KeepBut.trans (by repeat (first | (with_reducible first | exact HK.out | apply KeepBut.set_ | apply keep_drewN | apply keep_drew | apply keep_alloc | refine keep_far ?_ GW362.out _) | exact HK.out)) hk (.inl rfl)); replace HB := Aside0.mk (hb); replace HI0 := Aside0.mk (hi); (try clear hb); (try clear hb2); (try clear hk); (try clear hi)) | ((with_reducible refine gate_dst (N := 3) rfl ?_); refine bx #[.int .i64 0, .int .i64 0, .int .i64 0] 211 ?_; intro gb366 hg w7 hbox hb; have BK366 := Aside0.mk hbox; have GW366 := Aside0.mk ((by rw [hg]; exact (keep_size (w := w) (g := g) (row := none) (by repeat (first | (with_reducible first | exact HK.out | apply KeepBut.set_ | apply keep_drewN | apply keep_drew | apply keep_alloc | refine keep_far ?_ GW362.out _) | exact HK.out))) : w.heap.size ≤ gb366)); have GE366 := Aside0.mk ((Nat.le_trans HW0.out (by rw [hg]; exact (keep_size (w := w) (g := g) (row := none) (by repeat (first | (with_reducible first | exact HK.out | apply KeepBut.set_ | apply keep_drewN | apply keep_drew | apply keep_alloc | refine keep_far ?_ GW362.out _) | exact HK.out))) : w.heap.size ≤ gb366) : w0.heap.size ≤ gb366)); have NB362_366 := bl BK362 hg; have NB366_362 := bv BK362 hg; have NB0_366 := Aside0.mk ((by rw [hg]; exact Nat.ne_of_lt (IsS143.lt (show IsS143 w0 _ g s0_0 t364 t365 from by repeat (first | (with_reducible first | exact HI0.out | apply IsS143.alloc | apply IsS143.drewN | apply IsS143.drew | apply IsS143.set_1 | apply IsS143.set_2 | refine IsS143.far ?_ NB0_362.out _) | exact HI0.out))) : g ≠ gb366)); have NB366_0 := Aside0.mk ((by rw [hg]; exact Nat.ne_of_gt (IsS143.lt (show IsS143 w0 _ g s0_0 t364 t365 from by repeat (first | (with_reducible first | exact HI0.out | apply IsS143.alloc | apply IsS143.drewN | apply IsS143.drew | apply IsS143.set_1 | apply IsS143.set_2 | refine IsS143.far ?_ NB0_362.out _) | exact HI0.out))) : gb366 ≠ g)); replace BK362 := bb BK362 hb; replace HK := Aside0.mk (KeepBut.trans (by repeat (first | (with_reducible first | exact HK.out | apply KeepBut.set_ | apply keep_drewN | apply keep_drew | apply keep_alloc | refine keep_far ?_ GW362.out _) | exact HK.out)) (KeepBut.of_below hb g none) (.inl rfl)); replace HB := Aside0.mk (below_step (by repeat (first | (with_reducible first | exact HB.out | apply below_alloc | apply pw_below_drewN | apply below_drew1 | refine below_set ?_ (IsS143.ge HI0.out) | refine below_set ?_ GE362.out) | exact HB.out)) hb); replace HI0 := Aside0.mk (IsS143.below (by repeat (first | (with_reducible first | exact HI0.out | apply IsS143.alloc | apply IsS143.drewN | apply IsS143.drew | apply IsS143.set_1 | apply IsS143.set_2 | refine IsS143.far ?_ NB0_362.out _) | exact HI0.out)) hb); clear hb hbox hg; have hnb8 := NB366_362.out; have hnc8 := NB362_366.out; have hnb9 := NB366_0.out; have hnc9 := NB0_366.out; obtain ⟨z10_0, z10_1, z10_2, y10_0, y10_1, y10_2⟩ := bq3 BK366) | ((with_reducible refine gate_callee (f := 110) rfl ?_); refine gl (some 11) Tryd.func110 #[.pointer (some ⟨g, 0, none⟩), .int .i64 3] ?_; (with_reducible refine (spec_l00Src_one.calls k g s0_0 t364 t365 3 t367 t368 t369 w0 _ ?side1 ?side2 A3.out).mono ?_); (case side1 => repeat (first | (with_reducible first | exact HI0.out | apply IsS143.alloc | apply IsS143.drewN | apply IsS143.drew | apply IsS143.set_1 | apply IsS143.set_2 | refine IsS143.far ?_ NB0_362.out _ | refine IsS143.far ?_ NB0_366.out _) | exact HI0.out)); (case side2 => repeat (first | (with_reducible first | exact HB.out | apply below_alloc | apply pw_below_drewN | apply below_drew1 | refine below_set ?_ (IsS143.ge HI0.out) | refine below_set ?_ GE362.out | refine below_set ?_ GE366.out) | exact HB.out)); rintro e w11 ⟨rfl, hi, hb, hk⟩; refine ⟨_, rfl, ?_⟩; replace BK362 := Aside0.mk (KeepBut.blk hk (g' := gb362) (o := .cells #[.int .i64 0, .int .i64 0, .int .i64 0] 30 (0, 0)) (by refine bk (h := ?_); refine blk_far ?_ NB362_366.out _; refine bk (h := ?_); refine blk_far ?_ NB362_366.out _; refine bk (h := ?_); refine blk_far ?_ NB362_366.out _; refine bk (h := ?_); exact BK362.out) NB362_0.out (by simp)); replace BK366 := Aside0.mk (KeepBut.blk hk (g' := gb366) (o := .cells #[.int .i64 (wrap64 (t363 - 4)), .int .i64 0, .int .i64 0] 211 (0, 0)) (by refine bk (h := ?_); refine blk_put (cs := #[.int .i64 (wrap64 (t363 - 4)), .int .i64 0, .int .i64 0]) ?_ 2 _ rfl; refine bk (h := ?_); refine blk_put (cs := #[.int .i64 (wrap64 (t363 - 4)), .int .i64 0, .int .i64 0]) ?_ 1 _ rfl; refine bk (h := ?_); refine blk_put (cs := #[.int .i64 0, .int .i64 0, .int .i64 0]) ?_ 0 _ rfl; refine bk (h := ?_); exact BK366.out) NB366_0.out (by simp)); replace HK := Aside0.mk (KeepBut.trans (by repeat (first | (with_reducible first | exact HK.out | apply KeepBut.set_ | apply keep_drewN | apply keep_drew | apply keep_alloc | refine keep_far ?_ GW362.out _ | refine keep_far ?_ GW366.out _) | exact HK.out)) hk (.inl rfl)); replace HB := Aside0.mk (hb); replace HI0 := Aside0.mk (hi); (try clear hb); (try clear hb2); (try clear hk); (try clear hi)))
  (try simp only [Act.put, List.setIfInBounds_toArray, List.set_cons_zero, List.set_cons_succ])
  go_cut [] (fun wc => ∃ (kq : Nat) (x1001_3 : Int) (x1002_3 : Int) (x367001_3 : Int), Aside0 (spec_l01Draw.j0 kq s0_0 x1001_3 x1002_3 (wrap64 (t363 - 4)) x367001_3 0 = some (r1, r2, r3, r4, r5)) ∧ Aside0 (kq ≤ k) ∧ Aside0 (wc.heap[gb362]? = some (.cells #[.int .i64 0, .int .i64 0, .int .i64 0] 30 (0, 0))) ∧ Aside0 (wc.heap[gb366]? = some (.cells #[.int .i64 (wrap64 (t363 - 4)), .int .i64 x367001_3, .int .i64 0] 211 (0, 0))) ∧ Aside0 (IsS143 w0 wc g s0_0 x1001_3 x1002_3) ∧ Aside0 (KeepBut w wc g none) ∧ Aside0 (Below w0.heap.size w0 wc))
  case first =>
    have H := HC4.out
    clear HC4
    by_cases c12 : t367 = true
    · subst c12
      rw [if_pos rfl] at H
      replace H := Option.bind_eq_some_iff.mp H
      obtain ⟨⟨t370, t371, t372⟩, A130, H⟩ := H
      replace H : (spec_l01Draw.j0 k s0_0 t371 t372 (wrap64 (t363 - 4)) (wrap64 (t370 - 4)) 0) = some (r1, r2, r3, r4, r5) := H
      have A13 := Aside0.mk A130
      clear A130
      have H' := Aside0.mk H
      clear H
      go_wp2_with (first | ((with_reducible refine gate_callee (f := 71) rfl ?_); refine gl (some 13) Tryd.func71 #[.pointer (some ⟨g, 0, none⟩), .int .i64 9] ?_; (with_reducible refine (spec_l00Src_pick.calls k g s0_0 t368 t369 9 t370 t371 t372 w0 _ ?side1 ?side2 A13.out).mono ?_); (case side1 => repeat (first | (with_reducible first | exact HI0.out | apply IsS143.alloc | apply IsS143.drewN | apply IsS143.drew | apply IsS143.set_1 | apply IsS143.set_2 | refine IsS143.far ?_ NB0_362.out _ | refine IsS143.far ?_ NB0_366.out _) | exact HI0.out)); (case side2 => repeat (first | (with_reducible first | exact HB.out | apply below_alloc | apply pw_below_drewN | apply below_drew1 | refine below_set ?_ (IsS143.ge HI0.out) | refine below_set ?_ GE362.out | refine below_set ?_ GE366.out) | exact HB.out)); rintro e w14 ⟨rfl, hi, hb, hk⟩; refine ⟨_, rfl, ?_⟩; replace BK362 := Aside0.mk (KeepBut.blk hk (g' := gb362) (o := .cells #[.int .i64 0, .int .i64 0, .int .i64 0] 30 (0, 0)) (by refine bk (h := ?_); exact BK362.out) NB362_0.out (by simp)); replace BK366 := Aside0.mk (KeepBut.blk hk (g' := gb366) (o := .cells #[.int .i64 (wrap64 (t363 - 4)), .int .i64 0, .int .i64 0] 211 (0, 0)) (by refine bk (h := ?_); exact BK366.out) NB366_0.out (by simp)); replace HK := Aside0.mk (KeepBut.trans (by repeat (first | (with_reducible first | exact HK.out | apply KeepBut.set_ | apply keep_drewN | apply keep_drew | apply keep_alloc | refine keep_far ?_ GW362.out _ | refine keep_far ?_ GW366.out _) | exact HK.out)) hk (.inl rfl)); replace HB := Aside0.mk (hb); replace HI0 := Aside0.mk (hi); (try clear hb); (try clear hb2); (try clear hk); (try clear hi); have hnb15 := NB366_362.out; have hnc15 := NB362_366.out; have hnb16 := NB366_0.out; have hnc16 := NB0_366.out; obtain ⟨z17_0, z17_1, z17_2, y17_0, y17_1, y17_2⟩ := bq3 BK366))
      go_meet
      case rel => exact ⟨_, (t371), (t372), (wrap64 (t370 - 4)), H', ⟨by first | omega | exact Nat.le_refl _⟩, ⟨by refine bk (h := ?_); refine blk_far ?_ NB362_366.out _; refine bk (h := ?_); exact BK362.out⟩, ⟨by refine bk (h := ?_); refine blk_put (cs := #[.int .i64 (wrap64 (t363 - 4)), .int .i64 0, .int .i64 0]) ?_ 1 _ rfl; refine bk (h := ?_); exact BK366.out⟩, ⟨by repeat (first | (with_reducible first | exact HI0.out | apply IsS143.alloc | apply IsS143.drewN | apply IsS143.drew | apply IsS143.set_1 | apply IsS143.set_2 | refine IsS143.far ?_ NB0_362.out _ | refine IsS143.far ?_ NB0_366.out _) | exact HI0.out)⟩, ⟨by repeat (first | (with_reducible first | exact HK.out | apply KeepBut.set_ | apply keep_drewN | apply keep_drew | apply keep_alloc | refine keep_far ?_ GW362.out _ | refine keep_far ?_ GW366.out _) | exact HK.out)⟩, ⟨by repeat (first | (with_reducible first | exact HB.out | apply below_alloc | apply pw_below_drewN | apply below_drew1 | refine below_set ?_ (IsS143.ge HI0.out) | refine below_set ?_ GE362.out | refine below_set ?_ GE366.out) | exact HB.out)⟩⟩
    · replace c12 := Bool.eq_false_iff.mpr c12
      subst c12
      rw [if_neg nf] at H
      have H' := Aside0.mk H
      clear H
      go_wp2
      go_meet
      case rel => exact ⟨_, (t368), (t369), (0), H', ⟨by first | omega | exact Nat.le_refl _⟩, ⟨by refine bk (h := ?_); exact BK362.out⟩, ⟨by refine bk (h := ?_); exact BK366.out⟩, ⟨by repeat (first | (with_reducible first | exact HI0.out | apply IsS143.alloc | apply IsS143.drewN | apply IsS143.drew | apply IsS143.set_1 | apply IsS143.set_2 | refine IsS143.far ?_ NB0_362.out _ | refine IsS143.far ?_ NB0_366.out _) | exact HI0.out)⟩, ⟨by repeat (first | (with_reducible first | exact HK.out | apply KeepBut.set_ | apply keep_drewN | apply keep_drew | apply keep_alloc | refine keep_far ?_ GW362.out _ | refine keep_far ?_ GW366.out _) | exact HK.out)⟩, ⟨by repeat (first | (with_reducible first | exact HB.out | apply below_alloc | apply pw_below_drewN | apply below_drew1 | refine below_set ?_ (IsS143.ge HI0.out) | refine below_set ?_ GE362.out | refine below_set ?_ GE366.out) | exact HB.out)⟩⟩
  case rest =>
    clear HC4
    try clear c1
    try clear p2
    try clear p6
    try clear c7
    try clear c8
    try clear c9
    try clear c11
    try clear c12
    try clear c15
    try clear c16
    try clear z10_0 z10_1 z10_2 y10_0 y10_1 y10_2
    try clear z17_0 z17_1 z17_2 y17_0 y17_1 y17_2
    obtain ⟨kq, x1001_3, x1002_3, x367001_3, HA, HJ3, BK362, BK366, HI0, HK, HB⟩ := hcut
    cases kq with
    | zero => exact absurd HA.out (by simp [spec_l01Draw.j0])
    | succ kj3 =>
      have H := HA.out
      clear HA
      simp only [spec_l01Draw.j0] at H
      replace H := Option.bind_eq_some_iff.mp H
      obtain ⟨⟨t373, t374, t375⟩, A180, H⟩ := H
      replace H : (if t373 = true then ((spec_l00Src_pick.f kj3 s0_0 t374 t375 4).bind fun bt376 => (spec_l01Draw.j1 kj3 s0_0 bt376.2.1 bt376.2.2 (wrap64 (t363 - 4)) x367001_3 bt376.1)) else (spec_l01Draw.j1 kj3 s0_0 t374 t375 (wrap64 (t363 - 4)) x367001_3 0)) = some (r1, r2, r3, r4, r5) := H
      have A18 := Aside0.mk A180
      clear A180
      have HC19 := Aside0.mk H
      clear H
      go_upto_if 17 with (first | ((with_reducible refine gate_callee (f := 110) rfl ?_); refine gl (some 17) Tryd.func110 #[.pointer (some ⟨g, 0, none⟩), .int .i64 3] ?_; (with_reducible refine (spec_l00Src_one.calls kj3 g s0_0 x1001_3 x1002_3 3 t373 t374 t375 w0 _ ?side1 ?side2 A18.out).mono ?_); (case side1 => repeat (first | (with_reducible first | exact HI0.out | apply IsS143.alloc | apply IsS143.drewN | apply IsS143.drew | apply IsS143.set_1 | apply IsS143.set_2 | refine IsS143.far ?_ NB0_362.out _ | refine IsS143.far ?_ NB0_366.out _) | exact HI0.out)); (case side2 => repeat (first | (with_reducible first | exact HB.out | apply below_alloc | apply pw_below_drewN | apply below_drew1 | refine below_set ?_ (IsS143.ge HI0.out) | refine below_set ?_ GE362.out | refine below_set ?_ GE366.out) | exact HB.out)); rintro e w20 ⟨rfl, hi, hb, hk⟩; refine ⟨_, rfl, ?_⟩; replace BK362 := Aside0.mk (KeepBut.blk hk (g' := gb362) (o := .cells #[.int .i64 0, .int .i64 0, .int .i64 0] 30 (0, 0)) (by refine bk (h := ?_); exact BK362.out) NB362_0.out (by simp)); replace BK366 := Aside0.mk (KeepBut.blk hk (g' := gb366) (o := .cells #[.int .i64 (wrap64 (t363 - 4)), .int .i64 x367001_3, .int .i64 0] 211 (0, 0)) (by refine bk (h := ?_); exact BK366.out) NB366_0.out (by simp)); replace HK := Aside0.mk (KeepBut.trans (by repeat (first | (with_reducible first | exact HK.out | apply KeepBut.set_ | apply keep_drewN | apply keep_drew | apply keep_alloc | refine keep_far ?_ GW362.out _ | refine keep_far ?_ GW366.out _) | exact HK.out)) hk (.inl rfl)); replace HB := Aside0.mk (hb); replace HI0 := Aside0.mk (hi); (try clear hb); (try clear hb2); (try clear hk); (try clear hi)))
      (try simp only [Act.put, List.setIfInBounds_toArray, List.set_cons_zero, List.set_cons_succ])
      go_cut [] (fun wc => ∃ (kq : Nat) (x1001_18 : Int) (x1002_18 : Int) (x367002_18 : Int), Aside0 (spec_l01Draw.j1 kq s0_0 x1001_18 x1002_18 (wrap64 (t363 - 4)) x367001_3 x367002_18 = some (r1, r2, r3, r4, r5)) ∧ Aside0 (kq ≤ kj3) ∧ Aside0 (wc.heap[gb362]? = some (.cells #[.int .i64 0, .int .i64 0, .int .i64 0] 30 (0, 0))) ∧ Aside0 (wc.heap[gb366]? = some (.cells #[.int .i64 (wrap64 (t363 - 4)), .int .i64 x367001_3, .int .i64 x367002_18] 211 (0, 0))) ∧ Aside0 (IsS143 w0 wc g s0_0 x1001_18 x1002_18) ∧ Aside0 (KeepBut w wc g none) ∧ Aside0 (Below w0.heap.size w0 wc))
      case first =>
        have H := HC19.out
        clear HC19
        by_cases c21 : t373 = true
        · subst c21
          rw [if_pos rfl] at H
          replace H := Option.bind_eq_some_iff.mp H
          obtain ⟨⟨t376, t377, t378⟩, A220, H⟩ := H
          replace H : (spec_l01Draw.j1 kj3 s0_0 t377 t378 (wrap64 (t363 - 4)) x367001_3 t376) = some (r1, r2, r3, r4, r5) := H
          have A22 := Aside0.mk A220
          clear A220
          have H' := Aside0.mk H
          clear H
          go_wp2_with (first | ((with_reducible refine gate_callee (f := 71) rfl ?_); refine gl (some 19) Tryd.func71 #[.pointer (some ⟨g, 0, none⟩), .int .i64 4] ?_; (with_reducible refine (spec_l00Src_pick.calls kj3 g s0_0 t374 t375 4 t376 t377 t378 w0 _ ?side1 ?side2 A22.out).mono ?_); (case side1 => repeat (first | (with_reducible first | exact HI0.out | apply IsS143.alloc | apply IsS143.drewN | apply IsS143.drew | apply IsS143.set_1 | apply IsS143.set_2 | refine IsS143.far ?_ NB0_362.out _ | refine IsS143.far ?_ NB0_366.out _) | exact HI0.out)); (case side2 => repeat (first | (with_reducible first | exact HB.out | apply below_alloc | apply pw_below_drewN | apply below_drew1 | refine below_set ?_ (IsS143.ge HI0.out) | refine below_set ?_ GE362.out | refine below_set ?_ GE366.out) | exact HB.out)); rintro e w23 ⟨rfl, hi, hb, hk⟩; refine ⟨_, rfl, ?_⟩; replace BK362 := Aside0.mk (KeepBut.blk hk (g' := gb362) (o := .cells #[.int .i64 0, .int .i64 0, .int .i64 0] 30 (0, 0)) (by refine bk (h := ?_); exact BK362.out) NB362_0.out (by simp)); replace BK366 := Aside0.mk (KeepBut.blk hk (g' := gb366) (o := .cells #[.int .i64 (wrap64 (t363 - 4)), .int .i64 x367001_3, .int .i64 0] 211 (0, 0)) (by refine bk (h := ?_); exact BK366.out) NB366_0.out (by simp)); replace HK := Aside0.mk (KeepBut.trans (by repeat (first | (with_reducible first | exact HK.out | apply KeepBut.set_ | apply keep_drewN | apply keep_drew | apply keep_alloc | refine keep_far ?_ GW362.out _ | refine keep_far ?_ GW366.out _) | exact HK.out)) hk (.inl rfl)); replace HB := Aside0.mk (hb); replace HI0 := Aside0.mk (hi); (try clear hb); (try clear hb2); (try clear hk); (try clear hi); have hnb24 := NB366_362.out; have hnc24 := NB362_366.out; have hnb25 := NB366_0.out; have hnc25 := NB0_366.out; obtain ⟨z26_0, z26_1, z26_2, y26_0, y26_1, y26_2⟩ := bq3 BK366))
          go_meet
          case rel => exact ⟨_, (t377), (t378), (t376), H', ⟨by have := HJ3.out; first | omega | exact Nat.le_refl _⟩, ⟨by refine bk (h := ?_); refine blk_far ?_ NB362_366.out _; refine bk (h := ?_); exact BK362.out⟩, ⟨by refine bk (h := ?_); refine blk_put (cs := #[.int .i64 (wrap64 (t363 - 4)), .int .i64 x367001_3, .int .i64 0]) ?_ 2 _ rfl; refine bk (h := ?_); exact BK366.out⟩, ⟨by repeat (first | (with_reducible first | exact HI0.out | apply IsS143.alloc | apply IsS143.drewN | apply IsS143.drew | apply IsS143.set_1 | apply IsS143.set_2 | refine IsS143.far ?_ NB0_362.out _ | refine IsS143.far ?_ NB0_366.out _) | exact HI0.out)⟩, ⟨by repeat (first | (with_reducible first | exact HK.out | apply KeepBut.set_ | apply keep_drewN | apply keep_drew | apply keep_alloc | refine keep_far ?_ GW362.out _ | refine keep_far ?_ GW366.out _) | exact HK.out)⟩, ⟨by repeat (first | (with_reducible first | exact HB.out | apply below_alloc | apply pw_below_drewN | apply below_drew1 | refine below_set ?_ (IsS143.ge HI0.out) | refine below_set ?_ GE362.out | refine below_set ?_ GE366.out) | exact HB.out)⟩⟩
        · replace c21 := Bool.eq_false_iff.mpr c21
          subst c21
          rw [if_neg nf] at H
          have H' := Aside0.mk H
          clear H
          go_wp2
          go_meet
          case rel => exact ⟨_, (t374), (t375), (0), H', ⟨by have := HJ3.out; first | omega | exact Nat.le_refl _⟩, ⟨by refine bk (h := ?_); exact BK362.out⟩, ⟨by refine bk (h := ?_); exact BK366.out⟩, ⟨by repeat (first | (with_reducible first | exact HI0.out | apply IsS143.alloc | apply IsS143.drewN | apply IsS143.drew | apply IsS143.set_1 | apply IsS143.set_2 | refine IsS143.far ?_ NB0_362.out _ | refine IsS143.far ?_ NB0_366.out _) | exact HI0.out)⟩, ⟨by repeat (first | (with_reducible first | exact HK.out | apply KeepBut.set_ | apply keep_drewN | apply keep_drew | apply keep_alloc | refine keep_far ?_ GW362.out _ | refine keep_far ?_ GW366.out _) | exact HK.out)⟩, ⟨by repeat (first | (with_reducible first | exact HB.out | apply below_alloc | apply pw_below_drewN | apply below_drew1 | refine below_set ?_ (IsS143.ge HI0.out) | refine below_set ?_ GE362.out | refine below_set ?_ GE366.out) | exact HB.out)⟩⟩
      case rest =>
        clear HC19
        try clear c1
        try clear c2
        try clear p2
        try clear p6
        try clear c7
        try clear c8
        try clear c9
        try clear c11
        try clear c12
        try clear c15
        try clear c16
        try clear c21
        try clear c24
        try clear c25
        try clear z10_0 z10_1 z10_2 y10_0 y10_1 y10_2
        try clear z17_0 z17_1 z17_2 y17_0 y17_1 y17_2
        try clear z26_0 z26_1 z26_2 y26_0 y26_1 y26_2
        try clear p2
        try clear p6
        obtain ⟨kq, x1001_18, x1002_18, x367002_18, HA, HJ18, BK362, BK366, HI0, HK, HB⟩ := hcut
        cases kq with
        | zero => exact absurd HA.out (by simp [spec_l01Draw.j1])
        | succ kj18 =>
          have H := HA.out
          clear HA
          simp only [spec_l01Draw.j1] at H
          replace H := Option.bind_eq_some_iff.mp H
          obtain ⟨⟨t379, t380, t381⟩, A270, H⟩ := H
          replace H : (if t379 = true then ((spec_l00Src_among.f kj18 s0_0 t380 t381 (([131072, (-131072), 99999, 46341, 1] : List Int))).bind fun bt385 => ((spec_l00Src_among.f kj18 s0_0 bt385.2.1 bt385.2.2 (([131072, (-131072), (-92681), (-70710), 32768] : List Int))).bind fun bt391 => ((spec_l00Src_pick.f kj18 s0_0 bt391.2.1 bt391.2.2 11).bind fun bt394 => (spec_l01Draw.j2 kj18 s0_0 bt394.2.1 bt394.2.2 bt385.1 bt391.1 bt394.1)))) else (spec_l01Draw.j2 kj18 s0_0 t380 t381 (wrap64 (t363 - 4)) x367001_3 x367002_18)) = some (r1, r2, r3, r4, r5) := H
          have A27 := Aside0.mk A270
          clear A270
          have HC28 := Aside0.mk H
          clear H
          go_upto_if 22 with (first | ((with_reducible refine gate_callee (f := 110) rfl ?_); refine gl (some 22) Tryd.func110 #[.pointer (some ⟨g, 0, none⟩), .int .i64 12] ?_; (with_reducible refine (spec_l00Src_one.calls kj18 g s0_0 x1001_18 x1002_18 12 t379 t380 t381 w0 _ ?side1 ?side2 A27.out).mono ?_); (case side1 => repeat (first | (with_reducible first | exact HI0.out | apply IsS143.alloc | apply IsS143.drewN | apply IsS143.drew | apply IsS143.set_1 | apply IsS143.set_2 | refine IsS143.far ?_ NB0_362.out _ | refine IsS143.far ?_ NB0_366.out _) | exact HI0.out)); (case side2 => repeat (first | (with_reducible first | exact HB.out | apply below_alloc | apply pw_below_drewN | apply below_drew1 | refine below_set ?_ (IsS143.ge HI0.out) | refine below_set ?_ GE362.out | refine below_set ?_ GE366.out) | exact HB.out)); rintro e w29 ⟨rfl, hi, hb, hk⟩; refine ⟨_, rfl, ?_⟩; replace BK362 := Aside0.mk (KeepBut.blk hk (g' := gb362) (o := .cells #[.int .i64 0, .int .i64 0, .int .i64 0] 30 (0, 0)) (by refine bk (h := ?_); exact BK362.out) NB362_0.out (by simp)); replace BK366 := Aside0.mk (KeepBut.blk hk (g' := gb366) (o := .cells #[.int .i64 (wrap64 (t363 - 4)), .int .i64 x367001_3, .int .i64 x367002_18] 211 (0, 0)) (by refine bk (h := ?_); exact BK366.out) NB366_0.out (by simp)); replace HK := Aside0.mk (KeepBut.trans (by repeat (first | (with_reducible first | exact HK.out | apply KeepBut.set_ | apply keep_drewN | apply keep_drew | apply keep_alloc | refine keep_far ?_ GW362.out _ | refine keep_far ?_ GW366.out _) | exact HK.out)) hk (.inl rfl)); replace HB := Aside0.mk (hb); replace HI0 := Aside0.mk (hi); (try clear hb); (try clear hb2); (try clear hk); (try clear hi)))
          (try simp only [Act.put, List.setIfInBounds_toArray, List.set_cons_zero, List.set_cons_succ])
          go_cut [] (fun wc => ∃ (kq : Nat) (x1001_27 : Int) (x1002_27 : Int) (x367000_27 : Int) (x367001_27 : Int) (x367002_27 : Int), Aside0 (spec_l01Draw.j2 kq s0_0 x1001_27 x1002_27 x367000_27 x367001_27 x367002_27 = some (r1, r2, r3, r4, r5)) ∧ Aside0 (kq ≤ kj18) ∧ Aside0 (wc.heap[gb362]? = some (.cells #[.int .i64 0, .int .i64 0, .int .i64 0] 30 (0, 0))) ∧ Aside0 (wc.heap[gb366]? = some (.cells #[.int .i64 x367000_27, .int .i64 x367001_27, .int .i64 x367002_27] 211 (0, 0))) ∧ Aside0 (IsS143 w0 wc g s0_0 x1001_27 x1002_27) ∧ Aside0 (KeepBut w wc g none) ∧ Aside0 (Below w0.heap.size w0 wc))
          case first =>
            have H := HC28.out
            clear HC28
            by_cases c30 : t379 = true
            · subst c30
              rw [if_pos rfl] at H
              obtain ⟨y382, hy382⟩ : ∃ y_ : List Int, y_ = (([131072, (-131072), 99999, 46341, 1] : List Int)) := ⟨_, rfl⟩
              replace H : ((spec_l00Src_among.f kj18 s0_0 t380 t381 y382).bind fun bt385 => ((spec_l00Src_among.f kj18 s0_0 bt385.2.1 bt385.2.2 (([131072, (-131072), (-92681), (-70710), 32768] : List Int))).bind fun bt391 => ((spec_l00Src_pick.f kj18 s0_0 bt391.2.1 bt391.2.2 11).bind fun bt394 => (spec_l01Draw.j2 kj18 s0_0 bt394.2.1 bt394.2.2 bt385.1 bt391.1 bt394.1)))) = some (r1, r2, r3, r4, r5) := by first | (rw [hy382]; with_reducible exact H) | (have H2_ := (Option.bind_some _ _).symm.trans H; rw [hy382]; with_reducible exact H2_) | (have H2_ := (Option.bind_some _ _).symm.trans H; with_reducible exact H2_) | with_reducible exact H | (rw [hy382]; exact H) | exact H
              have Ny382 := Aside0.mk hy382
              clear hy382
              replace H := Option.bind_eq_some_iff.mp H
              obtain ⟨⟨t385, t386, t387⟩, A310, H⟩ := H
              replace H : ((spec_l00Src_among.f kj18 s0_0 t386 t387 (([131072, (-131072), (-92681), (-70710), 32768] : List Int))).bind fun bt391 => ((spec_l00Src_pick.f kj18 s0_0 bt391.2.1 bt391.2.2 11).bind fun bt394 => (spec_l01Draw.j2 kj18 s0_0 bt394.2.1 bt394.2.2 t385 bt391.1 bt394.1))) = some (r1, r2, r3, r4, r5) := H
              have A31 := Aside0.mk A310
              clear A310
              obtain ⟨y388, hy388⟩ : ∃ y_ : List Int, y_ = (([131072, (-131072), (-92681), (-70710), 32768] : List Int)) := ⟨_, rfl⟩
              replace H : ((spec_l00Src_among.f kj18 s0_0 t386 t387 y388).bind fun bt391 => ((spec_l00Src_pick.f kj18 s0_0 bt391.2.1 bt391.2.2 11).bind fun bt394 => (spec_l01Draw.j2 kj18 s0_0 bt394.2.1 bt394.2.2 t385 bt391.1 bt394.1))) = some (r1, r2, r3, r4, r5) := by first | (rw [hy388]; with_reducible exact H) | (have H2_ := (Option.bind_some _ _).symm.trans H; rw [hy388]; with_reducible exact H2_) | (have H2_ := (Option.bind_some _ _).symm.trans H; with_reducible exact H2_) | with_reducible exact H | (rw [hy388]; exact H) | exact H
              have Ny388 := Aside0.mk hy388
              clear hy388
              replace H := Option.bind_eq_some_iff.mp H
              obtain ⟨⟨t391, t392, t393⟩, A320, H⟩ := H
              replace H : ((spec_l00Src_pick.f kj18 s0_0 t392 t393 11).bind fun bt394 => (spec_l01Draw.j2 kj18 s0_0 bt394.2.1 bt394.2.2 t385 t391 bt394.1)) = some (r1, r2, r3, r4, r5) := H
              have A32 := Aside0.mk A320
              clear A320
              replace H := Option.bind_eq_some_iff.mp H
              obtain ⟨⟨t394, t395, t396⟩, A330, H⟩ := H
              replace H : (spec_l01Draw.j2 kj18 s0_0 t395 t396 t385 t391 t394) = some (r1, r2, r3, r4, r5) := H
              have A33 := Aside0.mk A330
              clear A330
              have H' := Aside0.mk H
              clear H
              go_wp2_with (first | ((with_reducible refine gate_dst (N := 24) rfl ?_); refine Kd.R_lit (Kd.int .i64) _ 2 ?hg (N := 24) ?hd (xs := ([131072, (-131072), 99999, 46341, 1] : List Int)) (inner := [.int .i64 131072, .int .i64 (-131072), .int .i64 99999, .int .i64 46341, .int .i64 1]) (ok := fun _ => True) (okp := fun _ => True) ?hr ?hp (fun _ hk => hk) trivial (Below.refl _ _) (Nat.le_refl _) (by simp) ?_; (case hd => rfl); (case hg => rfl); (case hr => first | (go_simp; done) | (go_simp; rfl)); (case hp => exact (Reps.one (show Kd.M (Kd.int .i64) _ _ _ 131072 [.int .i64 131072] from rfl) (Reps.one (show Kd.M (Kd.int .i64) _ _ _ (-131072) [.int .i64 (-131072)] from rfl) (Reps.one (show Kd.M (Kd.int .i64) _ _ _ 99999 [.int .i64 99999] from rfl) (Reps.one (show Kd.M (Kd.int .i64) _ _ _ 46341 [.int .i64 46341] from rfl) (Reps.one (show Kd.M (Kd.int .i64) _ _ _ 1 [.int .i64 1] from rfl) (Reps.none _ _))))))); intro v383 w34 ho35 hb hg_ hnew_; clear hg_ hnew_; (first | rw [← Ny382.out] at ho35 | (simp only [Int.reduceToNat] at ho35; rw [← Ny382.out] at ho35)); have HO384 := Aside0.mk (Kd.R_lower ho35 (keep_size (w := w) (g := g) (row := none) (by repeat (first | (with_reducible first | exact HK.out | apply KeepBut.set_ | apply keep_drewN | apply keep_drew | apply keep_alloc | refine keep_far ?_ GW362.out _ | refine keep_far ?_ GW366.out _) | exact HK.out)))); replace BK362 := bb BK362 hb; replace BK366 := bb BK366 hb; replace HK := Aside0.mk (KeepBut.trans (by repeat (first | (with_reducible first | exact HK.out | apply KeepBut.set_ | apply keep_drewN | apply keep_drew | apply keep_alloc | refine keep_far ?_ GW362.out _ | refine keep_far ?_ GW366.out _) | exact HK.out)) (KeepBut.of_below hb g none) (.inl rfl)); replace HB := Aside0.mk (below_step (by repeat (first | (with_reducible first | exact HB.out | apply below_alloc | apply pw_below_drewN | apply below_drew1 | refine below_set ?_ (IsS143.ge HI0.out) | refine below_set ?_ GE362.out | refine below_set ?_ GE366.out) | exact HB.out)) hb); replace HI0 := Aside0.mk (IsS143.below (by repeat (first | (with_reducible first | exact HI0.out | apply IsS143.alloc | apply IsS143.drewN | apply IsS143.drew | apply IsS143.set_1 | apply IsS143.set_2 | refine IsS143.far ?_ NB0_362.out _ | refine IsS143.far ?_ NB0_366.out _) | exact HI0.out)) hb); clear hb ho35; obtain ⟨Ao36, co36, eo36⟩ := Kd.R_slice HO384.out; subst eo36) | ((with_reducible refine gate_callee (f := 117) rfl ?_); refine gl (some 25) Tryd.func117 #[.pointer (some ⟨g, 0, none⟩), .slice Ao36 y382.length co36] ?_; (with_reducible refine (spec_l00Src_among.calls kj18 g s0_0 t380 t381 _ _ y382 t385 t386 t387 w0 _ ?side1 ?side2 ?side3 ?side4 ?side5 A31.out).mono ?_); (case side1 => repeat (first | (with_reducible first | exact HI0.out | apply IsS143.alloc | apply IsS143.drewN | apply IsS143.drew | apply IsS143.set_1 | apply IsS143.set_2 | refine IsS143.far ?_ NB0_362.out _ | refine IsS143.far ?_ NB0_366.out _) | exact HI0.out)); (case side2 => repeat (first | (with_reducible first | exact HB.out | apply below_alloc | apply pw_below_drewN | apply below_drew1 | refine below_set ?_ (IsS143.ge HI0.out) | refine below_set ?_ GE362.out | refine below_set ?_ GE366.out) | exact HB.out)); (case side3 => exact se HO384); (case side4 => exact (Kd.R_reads' HO384.out).2.1); (case side5 => exact far_slice (IsS143.own_ne HI0.out HO384.out (by decide))); rintro e w37 ⟨rfl, hi, hb, hk⟩; refine ⟨_, rfl, ?_⟩; replace BK362 := Aside0.mk (KeepBut.blk hk (g' := gb362) (o := .cells #[.int .i64 0, .int .i64 0, .int .i64 0] 30 (0, 0)) (by refine bk (h := ?_); exact BK362.out) NB362_0.out (by simp)); replace BK366 := Aside0.mk (KeepBut.blk hk (g' := gb366) (o := .cells #[.int .i64 (wrap64 (t363 - 4)), .int .i64 x367001_3, .int .i64 x367002_18] 211 (0, 0)) (by refine bk (h := ?_); exact BK366.out) NB366_0.out (by simp)); replace HO384 := Aside0.mk (Kd.R_mono (Kd.R_keep (IsS143.apart (show IsS143 w0 _ g s0_0 t380 t381 from by repeat (first | (with_reducible first | exact HI0.out | apply IsS143.alloc | apply IsS143.drewN | apply IsS143.drew | apply IsS143.set_1 | apply IsS143.set_2 | refine IsS143.far ?_ NB0_362.out _ | refine IsS143.far ?_ NB0_366.out _) | exact HI0.out)) (ra (h := HO384.out)) (by decide)) hk (fun _ h => h.2)) (fun _ h => h.1)); replace HK := Aside0.mk (KeepBut.trans (by repeat (first | (with_reducible first | exact HK.out | apply KeepBut.set_ | apply keep_drewN | apply keep_drew | apply keep_alloc | refine keep_far ?_ GW362.out _ | refine keep_far ?_ GW366.out _) | exact HK.out)) hk (.inl rfl)); replace HB := Aside0.mk (hb); replace HI0 := Aside0.mk (hi); (try clear hb); (try clear hb2); (try clear hk); (try clear hi); have hnb38 := NB366_362.out; have hnc38 := NB362_366.out; have hnb39 := NB366_0.out; have hnc39 := NB0_366.out; obtain ⟨z40_0, z40_1, z40_2, y40_0, y40_1, y40_2⟩ := bq3 BK366) | ((with_reducible refine gate_dst (N := 28) rfl ?_); refine Kd.R_lit (Kd.int .i64) _ 2 ?hg (N := 28) ?hd (xs := ([131072, (-131072), (-92681), (-70710), 32768] : List Int)) (inner := [.int .i64 131072, .int .i64 (-131072), .int .i64 (-92681), .int .i64 (-70710), .int .i64 32768]) (ok := fun _ => True) (okp := fun _ => True) ?hr ?hp (fun _ hk => hk) trivial (Below.refl _ _) (Nat.le_refl _) (by simp) ?_; (case hd => rfl); (case hg => rfl); (case hr => first | (go_simp; done) | (go_simp; rfl)); (case hp => exact (Reps.one (show Kd.M (Kd.int .i64) _ _ _ 131072 [.int .i64 131072] from rfl) (Reps.one (show Kd.M (Kd.int .i64) _ _ _ (-131072) [.int .i64 (-131072)] from rfl) (Reps.one (show Kd.M (Kd.int .i64) _ _ _ (-92681) [.int .i64 (-92681)] from rfl) (Reps.one (show Kd.M (Kd.int .i64) _ _ _ (-70710) [.int .i64 (-70710)] from rfl) (Reps.one (show Kd.M (Kd.int .i64) _ _ _ 32768 [.int .i64 32768] from rfl) (Reps.none _ _))))))); intro v389 w41 ho42 hb hg_ hnew_; clear hg_ hnew_; (first | rw [← Ny388.out] at ho42 | (simp only [Int.reduceToNat] at ho42; rw [← Ny388.out] at ho42)); have HO390 := Aside0.mk (Kd.R_lower (Kd.R_new' ho42 (Kd.R_lt (by refine ra (h := ?_); exact (Kd.R_mono (Kd.R_far (p := ⟨gb366, 0, none⟩) (Kd.R_types HO384.out BK366.out (by decide)) (fun _ hk => hk.2) (.int .i64 t385)) (fun _ h_ => h_.1))))) (keep_size (w := w) (g := g) (row := none) (by repeat (first | (with_reducible first | exact HK.out | apply KeepBut.set_ | apply keep_drewN | apply keep_drew | apply keep_alloc | refine keep_far ?_ GW362.out _ | refine keep_far ?_ GW366.out _) | exact HK.out)))); replace HO384 := Aside0.mk (Kd.R_elder' (by refine ra (h := ?_); exact (Kd.R_mono (Kd.R_far (p := ⟨gb366, 0, none⟩) (Kd.R_types HO384.out BK366.out (by decide)) (fun _ hk => hk.2) (.int .i64 t385)) (fun _ h_ => h_.1))) (Kd.R_base ho42) hb); replace BK362 := Aside0.mk (blk_below (g := gb362) (o := .cells #[.int .i64 0, .int .i64 0, .int .i64 0] 30 (0, 0)) (by refine bk (h := ?_); refine blk_far ?_ NB362_366.out _; refine bk (h := ?_); exact BK362.out) hb); replace BK366 := Aside0.mk (blk_below (g := gb366) (o := .cells #[.int .i64 t385, .int .i64 x367001_3, .int .i64 x367002_18] 211 (0, 0)) (by refine bk (h := ?_); refine blk_put (cs := #[.int .i64 (wrap64 (t363 - 4)), .int .i64 x367001_3, .int .i64 x367002_18]) ?_ 0 _ rfl; refine bk (h := ?_); exact BK366.out) hb); replace HK := Aside0.mk (KeepBut.trans (by repeat (first | (with_reducible first | exact HK.out | apply KeepBut.set_ | apply keep_drewN | apply keep_drew | apply keep_alloc | refine keep_far ?_ GW362.out _ | refine keep_far ?_ GW366.out _) | exact HK.out)) (KeepBut.of_below hb g none) (.inl rfl)); replace HB := Aside0.mk (below_step (by repeat (first | (with_reducible first | exact HB.out | apply below_alloc | apply pw_below_drewN | apply below_drew1 | refine below_set ?_ (IsS143.ge HI0.out) | refine below_set ?_ GE362.out | refine below_set ?_ GE366.out) | exact HB.out)) hb); replace HI0 := Aside0.mk (IsS143.below (show IsS143 w0 (w37.setCell ⟨gb366, 0, none⟩ (.int .i64 t385)) g s0_0 t386 t387 from by repeat (first | (with_reducible first | exact HI0.out | apply IsS143.alloc | apply IsS143.drewN | apply IsS143.drew | apply IsS143.set_1 | apply IsS143.set_2 | refine IsS143.far ?_ NB0_362.out _ | refine IsS143.far ?_ NB0_366.out _) | exact HI0.out)) hb); clear hb ho42; obtain ⟨Ao43, co43, eo43⟩ := Kd.R_slice HO390.out; subst eo43) | ((with_reducible refine gate_callee (f := 117) rfl ?_); refine gl (some 29) Tryd.func117 #[.pointer (some ⟨g, 0, none⟩), .slice Ao43 y388.length co43] ?_; (with_reducible refine (spec_l00Src_among.calls kj18 g s0_0 t386 t387 _ _ y388 t391 t392 t393 w0 _ ?side1 ?side2 ?side3 ?side4 ?side5 A32.out).mono ?_); (case side1 => repeat (first | (with_reducible first | exact HI0.out | apply IsS143.alloc | apply IsS143.drewN | apply IsS143.drew | apply IsS143.set_1 | apply IsS143.set_2 | refine IsS143.far ?_ NB0_362.out _ | refine IsS143.far ?_ NB0_366.out _) | exact HI0.out)); (case side2 => repeat (first | (with_reducible first | exact HB.out | apply below_alloc | apply pw_below_drewN | apply below_drew1 | refine below_set ?_ (IsS143.ge HI0.out) | refine below_set ?_ GE362.out | refine below_set ?_ GE366.out) | exact HB.out)); (case side3 => exact se HO390); (case side4 => exact (Kd.R_reads' HO390.out).2.1); (case side5 => exact far_slice (IsS143.own_ne HI0.out HO390.out (by decide))); rintro e w44 ⟨rfl, hi, hb, hk⟩; refine ⟨_, rfl, ?_⟩; replace BK362 := Aside0.mk (KeepBut.blk hk (g' := gb362) (o := .cells #[.int .i64 0, .int .i64 0, .int .i64 0] 30 (0, 0)) (by refine bk (h := ?_); exact BK362.out) NB362_0.out (by simp)); replace BK366 := Aside0.mk (KeepBut.blk hk (g' := gb366) (o := .cells #[.int .i64 t385, .int .i64 x367001_3, .int .i64 x367002_18] 211 (0, 0)) (by refine bk (h := ?_); exact BK366.out) NB366_0.out (by simp)); replace HO384 := Aside0.mk (Kd.R_mono (Kd.R_keep (IsS143.apart (show IsS143 w0 _ g s0_0 t386 t387 from by repeat (first | (with_reducible first | exact HI0.out | apply IsS143.alloc | apply IsS143.drewN | apply IsS143.drew | apply IsS143.set_1 | apply IsS143.set_2 | refine IsS143.far ?_ NB0_362.out _ | refine IsS143.far ?_ NB0_366.out _) | exact HI0.out)) (ra (h := HO384.out)) (by decide)) hk (fun _ h => h.2)) (fun _ h => h.1)); replace HO390 := Aside0.mk (Kd.R_mono (Kd.R_keep (IsS143.apart (show IsS143 w0 _ g s0_0 t386 t387 from by repeat (first | (with_reducible first | exact HI0.out | apply IsS143.alloc | apply IsS143.drewN | apply IsS143.drew | apply IsS143.set_1 | apply IsS143.set_2 | refine IsS143.far ?_ NB0_362.out _ | refine IsS143.far ?_ NB0_366.out _) | exact HI0.out)) (ra (h := HO390.out)) (by decide)) hk (fun _ h => h.2)) (fun _ h => h.1)); replace HK := Aside0.mk (KeepBut.trans (by repeat (first | (with_reducible first | exact HK.out | apply KeepBut.set_ | apply keep_drewN | apply keep_drew | apply keep_alloc | refine keep_far ?_ GW362.out _ | refine keep_far ?_ GW366.out _) | exact HK.out)) hk (.inl rfl)); replace HB := Aside0.mk (hb); replace HI0 := Aside0.mk (hi); (try clear hb); (try clear hb2); (try clear hk); (try clear hi); obtain ⟨z45_0, z45_1, z45_2, y45_0, y45_1, y45_2⟩ := bq3 BK366) | ((with_reducible refine gate_callee (f := 71) rfl ?_); refine gl (some 32) Tryd.func71 #[.pointer (some ⟨g, 0, none⟩), .int .i64 11] ?_; (with_reducible refine (spec_l00Src_pick.calls kj18 g s0_0 t392 t393 11 t394 t395 t396 w0 _ ?side1 ?side2 A33.out).mono ?_); (case side1 => repeat (first | (with_reducible first | exact HI0.out | apply IsS143.alloc | apply IsS143.drewN | apply IsS143.drew | apply IsS143.set_1 | apply IsS143.set_2 | refine IsS143.far ?_ NB0_362.out _ | refine IsS143.far ?_ NB0_366.out _) | exact HI0.out)); (case side2 => repeat (first | (with_reducible first | exact HB.out | apply below_alloc | apply pw_below_drewN | apply below_drew1 | refine below_set ?_ (IsS143.ge HI0.out) | refine below_set ?_ GE362.out | refine below_set ?_ GE366.out) | exact HB.out)); rintro e w46 ⟨rfl, hi, hb, hk⟩; refine ⟨_, rfl, ?_⟩; replace BK362 := Aside0.mk (KeepBut.blk hk (g' := gb362) (o := .cells #[.int .i64 0, .int .i64 0, .int .i64 0] 30 (0, 0)) (by refine bk (h := ?_); refine blk_far ?_ NB362_366.out _; refine bk (h := ?_); exact BK362.out) NB362_0.out (by simp)); replace HO384 := Aside0.mk (Kd.R_mono (Kd.R_keep (IsS143.apart (show IsS143 w0 _ g s0_0 t392 t393 from by repeat (first | (with_reducible first | exact HI0.out | apply IsS143.alloc | apply IsS143.drewN | apply IsS143.drew | apply IsS143.set_1 | apply IsS143.set_2 | refine IsS143.far ?_ NB0_362.out _ | refine IsS143.far ?_ NB0_366.out _) | exact HI0.out)) (by refine ra (h := ?_); exact (Kd.R_mono (Kd.R_far (p := ⟨gb366, 1, none⟩) (Kd.R_types HO384.out BK366.out (by decide)) (fun _ hk => hk.2) (.int .i64 t391)) (fun _ h_ => h_.1))) (by decide)) hk (fun _ h => h.2)) (fun _ h => h.1)); replace HO390 := Aside0.mk (Kd.R_mono (Kd.R_keep (IsS143.apart (show IsS143 w0 _ g s0_0 t392 t393 from by repeat (first | (with_reducible first | exact HI0.out | apply IsS143.alloc | apply IsS143.drewN | apply IsS143.drew | apply IsS143.set_1 | apply IsS143.set_2 | refine IsS143.far ?_ NB0_362.out _ | refine IsS143.far ?_ NB0_366.out _) | exact HI0.out)) (by refine ra (h := ?_); exact (Kd.R_mono (Kd.R_far (p := ⟨gb366, 1, none⟩) (Kd.R_types HO390.out BK366.out (by decide)) (fun _ hk => hk.2) (.int .i64 t391)) (fun _ h_ => h_.1))) (by decide)) hk (fun _ h => h.2)) (fun _ h => h.1)); replace BK366 := Aside0.mk (KeepBut.blk hk (g' := gb366) (o := .cells #[.int .i64 t385, .int .i64 t391, .int .i64 x367002_18] 211 (0, 0)) (by refine bk (h := ?_); refine blk_put (cs := #[.int .i64 t385, .int .i64 x367001_3, .int .i64 x367002_18]) ?_ 1 _ rfl; refine bk (h := ?_); exact BK366.out) NB366_0.out (by simp)); replace HK := Aside0.mk (KeepBut.trans (by repeat (first | (with_reducible first | exact HK.out | apply KeepBut.set_ | apply keep_drewN | apply keep_drew | apply keep_alloc | refine keep_far ?_ GW362.out _ | refine keep_far ?_ GW366.out _) | exact HK.out)) hk (.inl rfl)); replace HB := Aside0.mk (hb); replace HI0 := Aside0.mk (hi); (try clear hb); (try clear hb2); (try clear hk); (try clear hi); obtain ⟨z47_0, z47_1, z47_2, y47_0, y47_1, y47_2⟩ := bq3 BK366))
              go_meet
              case rel => exact ⟨_, (t395), (t396), (t385), (t391), (t394), H', ⟨by have := HJ3.out; have := HJ18.out; first | omega | exact Nat.le_refl _⟩, ⟨by refine bk (h := ?_); refine blk_far ?_ NB362_366.out _; refine bk (h := ?_); exact BK362.out⟩, ⟨by refine bk (h := ?_); refine blk_put (cs := #[.int .i64 t385, .int .i64 t391, .int .i64 x367002_18]) ?_ 2 _ rfl; refine bk (h := ?_); exact BK366.out⟩, ⟨by repeat (first | (with_reducible first | exact HI0.out | apply IsS143.alloc | apply IsS143.drewN | apply IsS143.drew | apply IsS143.set_1 | apply IsS143.set_2 | refine IsS143.far ?_ NB0_362.out _ | refine IsS143.far ?_ NB0_366.out _) | exact HI0.out)⟩, ⟨by repeat (first | (with_reducible first | exact HK.out | apply KeepBut.set_ | apply keep_drewN | apply keep_drew | apply keep_alloc | refine keep_far ?_ GW362.out _ | refine keep_far ?_ GW366.out _) | exact HK.out)⟩, ⟨by repeat (first | (with_reducible first | exact HB.out | apply below_alloc | apply pw_below_drewN | apply below_drew1 | refine below_set ?_ (IsS143.ge HI0.out) | refine below_set ?_ GE362.out | refine below_set ?_ GE366.out) | exact HB.out)⟩⟩
            · replace c30 := Bool.eq_false_iff.mpr c30
              subst c30
              rw [if_neg nf] at H
              have H' := Aside0.mk H
              clear H
              go_wp2
              go_meet
              case rel => exact ⟨_, (t380), (t381), ((wrap64 (t363 - 4))), (x367001_3), (x367002_18), H', ⟨by have := HJ3.out; have := HJ18.out; first | omega | exact Nat.le_refl _⟩, ⟨by refine bk (h := ?_); exact BK362.out⟩, ⟨by refine bk (h := ?_); exact BK366.out⟩, ⟨by repeat (first | (with_reducible first | exact HI0.out | apply IsS143.alloc | apply IsS143.drewN | apply IsS143.drew | apply IsS143.set_1 | apply IsS143.set_2 | refine IsS143.far ?_ NB0_362.out _ | refine IsS143.far ?_ NB0_366.out _) | exact HI0.out)⟩, ⟨by repeat (first | (with_reducible first | exact HK.out | apply KeepBut.set_ | apply keep_drewN | apply keep_drew | apply keep_alloc | refine keep_far ?_ GW362.out _ | refine keep_far ?_ GW366.out _) | exact HK.out)⟩, ⟨by repeat (first | (with_reducible first | exact HB.out | apply below_alloc | apply pw_below_drewN | apply below_drew1 | refine below_set ?_ (IsS143.ge HI0.out) | refine below_set ?_ GE362.out | refine below_set ?_ GE366.out) | exact HB.out)⟩⟩
          case rest =>
            clear HC28
            try clear c1
            try clear c2
            try clear p2
            try clear c3
            try clear p6
            try clear c7
            try clear c8
            try clear c9
            try clear c11
            try clear c12
            try clear c15
            try clear c16
            try clear c21
            try clear c24
            try clear c25
            try clear c30
            try clear c38
            try clear c39
            try clear z10_0 z10_1 z10_2 y10_0 y10_1 y10_2
            try clear z17_0 z17_1 z17_2 y17_0 y17_1 y17_2
            try clear z26_0 z26_1 z26_2 y26_0 y26_1 y26_2
            try clear z40_0 z40_1 z40_2 y40_0 y40_1 y40_2
            try clear z45_0 z45_1 z45_2 y45_0 y45_1 y45_2
            try clear z47_0 z47_1 z47_2 y47_0 y47_1 y47_2
            try clear p2
            try clear p6
            obtain ⟨kq, x1001_27, x1002_27, x367000_27, x367001_27, x367002_27, HA, HJ27, BK362, BK366, HI0, HK, HB⟩ := hcut
            cases kq with
            | zero => exact absurd HA.out (by simp [spec_l01Draw.j2])
            | succ kj27 =>
              have H := HA.out
              clear HA
              simp only [spec_l01Draw.j2] at H
              replace H := Option.bind_eq_some_iff.mp H
              obtain ⟨⟨t397, t398, t399, t400⟩, A480, H⟩ := H
              replace H : (if t400 = true then (some (t397, t398, t399, x1001_27, x1002_27)) else (some (1, 0, 0, x1001_27, x1002_27))) = some (r1, r2, r3, r4, r5) := H
              have A48 := Aside0.mk A480
              clear A480
              by_cases c49 : t400 = true
              · subst c49
                rw [if_pos rfl] at H
                simp only [Option.some.injEq, Prod.mk.injEq] at H
                obtain ⟨rfl, rfl, rfl, rfl, rfl⟩ := H
                have hnb50 := NB366_362.out
                have hnc50 := NB362_366.out
                have hnb51 := NB366_0.out
                have hnc51 := NB0_366.out
                obtain ⟨z52_0, z52_1, z52_2, y52_0, y52_1, y52_2⟩ := bq3 BK366
                go_wp2_with (first | ((with_reducible refine gate_callee (f := 190) rfl ?_); refine gl (some 36) Tryd.func190 #[.agg #[.int .i64 x367000_27, .int .i64 x367001_27, .int .i64 x367002_27]] ?_; (with_reducible refine (spec_l01Num.calls kj27 x367000_27 x367001_27 x367002_27 t397 t398 t399 true _ A48.out).mono ?_); rintro e w53 ⟨rfl, hb⟩; refine ⟨_, rfl, ?_⟩; replace BK362 := bb BK362 hb; replace BK366 := bb BK366 hb; replace HK := Aside0.mk (KeepBut.trans (by repeat (first | (with_reducible first | exact HK.out | apply KeepBut.set_ | apply keep_drewN | apply keep_drew | apply keep_alloc | refine keep_far ?_ GW362.out _ | refine keep_far ?_ GW366.out _) | exact HK.out)) (KeepBut.of_below hb g none) (.inl rfl)); replace HB := Aside0.mk (below_step (by repeat (first | (with_reducible first | exact HB.out | apply below_alloc | apply pw_below_drewN | apply below_drew1 | refine below_set ?_ (IsS143.ge HI0.out) | refine below_set ?_ GE362.out | refine below_set ?_ GE366.out) | exact HB.out)) hb); replace HI0 := Aside0.mk (IsS143.below (by repeat (first | (with_reducible first | exact HI0.out | apply IsS143.alloc | apply IsS143.drewN | apply IsS143.drew | apply IsS143.set_1 | apply IsS143.set_2 | refine IsS143.far ?_ NB0_362.out _ | refine IsS143.far ?_ NB0_366.out _) | exact HI0.out)) hb); (try clear hb); (try clear hb2); (try clear hk); (try clear hi)) | ((with_reducible refine gate_dst (N := 4) rfl ?_); refine bx #[.int .i64 0, .int .i64 0, .int .i64 0] 30 ?_; intro gb401 hg w54 hbox hb; have BK401 := Aside0.mk hbox; have GW401 := Aside0.mk ((by rw [hg]; exact (keep_size (w := w) (g := g) (row := none) (by repeat (first | (with_reducible first | exact HK.out | apply KeepBut.set_ | apply keep_drewN | apply keep_drew | apply keep_alloc | refine keep_far ?_ GW362.out _ | refine keep_far ?_ GW366.out _) | exact HK.out))) : w.heap.size ≤ gb401)); have GE401 := Aside0.mk ((Nat.le_trans HW0.out (by rw [hg]; exact (keep_size (w := w) (g := g) (row := none) (by repeat (first | (with_reducible first | exact HK.out | apply KeepBut.set_ | apply keep_drewN | apply keep_drew | apply keep_alloc | refine keep_far ?_ GW362.out _ | refine keep_far ?_ GW366.out _) | exact HK.out))) : w.heap.size ≤ gb401) : w0.heap.size ≤ gb401)); have NB362_401 := bl BK362 hg; have NB401_362 := bv BK362 hg; have NB366_401 := bl BK366 hg; have NB401_366 := bv BK366 hg; have NB0_401 := Aside0.mk ((by rw [hg]; exact Nat.ne_of_lt (IsS143.lt (show IsS143 w0 _ g s0_0 x1001_27 x1002_27 from by repeat (first | (with_reducible first | exact HI0.out | apply IsS143.alloc | apply IsS143.drewN | apply IsS143.drew | apply IsS143.set_1 | apply IsS143.set_2 | refine IsS143.far ?_ NB0_362.out _ | refine IsS143.far ?_ NB0_366.out _) | exact HI0.out))) : g ≠ gb401)); have NB401_0 := Aside0.mk ((by rw [hg]; exact Nat.ne_of_gt (IsS143.lt (show IsS143 w0 _ g s0_0 x1001_27 x1002_27 from by repeat (first | (with_reducible first | exact HI0.out | apply IsS143.alloc | apply IsS143.drewN | apply IsS143.drew | apply IsS143.set_1 | apply IsS143.set_2 | refine IsS143.far ?_ NB0_362.out _ | refine IsS143.far ?_ NB0_366.out _) | exact HI0.out))) : gb401 ≠ g)); replace BK362 := bb BK362 hb; replace BK366 := bb BK366 hb; replace HK := Aside0.mk (KeepBut.trans (by repeat (first | (with_reducible first | exact HK.out | apply KeepBut.set_ | apply keep_drewN | apply keep_drew | apply keep_alloc | refine keep_far ?_ GW362.out _ | refine keep_far ?_ GW366.out _) | exact HK.out)) (KeepBut.of_below hb g none) (.inl rfl)); replace HB := Aside0.mk (below_step (by repeat (first | (with_reducible first | exact HB.out | apply below_alloc | apply pw_below_drewN | apply below_drew1 | refine below_set ?_ (IsS143.ge HI0.out) | refine below_set ?_ GE362.out | refine below_set ?_ GE366.out) | exact HB.out)) hb); replace HI0 := Aside0.mk (IsS143.below (by repeat (first | (with_reducible first | exact HI0.out | apply IsS143.alloc | apply IsS143.drewN | apply IsS143.drew | apply IsS143.set_1 | apply IsS143.set_2 | refine IsS143.far ?_ NB0_362.out _ | refine IsS143.far ?_ NB0_366.out _) | exact HI0.out)) hb); clear hb hbox hg; have hnb55 := NB401_362.out; have hnc55 := NB362_401.out; have hnb56 := NB401_366.out; have hnc56 := NB366_401.out; have hnb57 := NB401_0.out; have hnc57 := NB0_401.out; obtain ⟨z58_0, z58_1, z58_2, y58_0, y58_1, y58_2⟩ := bq3 BK401; have hnb59 := NB362_0.out; have hnc59 := NB0_362.out; obtain ⟨z60_0, z60_1, z60_2, y60_0, y60_1, y60_2⟩ := bq3 BK362))
                refine bodyPost_ret (results_cell_row rfl _ _ gb362 30 #[.int .i64 t397, .int .i64 t398, .int .i64 t399] (0, 0) _ rfl (by refine bk (h := ?_); refine blk_put (cs := #[.int .i64 t397, .int .i64 t398, .int .i64 0]) ?_ 2 _ rfl; refine bk (h := ?_); refine blk_put (cs := #[.int .i64 t397, .int .i64 0, .int .i64 0]) ?_ 1 _ rfl; refine bk (h := ?_); refine blk_put (cs := #[.int .i64 0, .int .i64 0, .int .i64 0]) ?_ 0 _ rfl; refine bk (h := ?_); refine blk_far ?_ NB362_401.out _; refine bk (h := ?_); refine blk_far ?_ NB362_401.out _; refine bk (h := ?_); refine blk_far ?_ NB362_401.out _; refine bk (h := ?_); exact BK362.out) Tryd.underlying30 rfl (by kernel_rfl)) rfl ?_
                exact ⟨er, by repeat (first | (with_reducible first | exact HI0.out | apply IsS143.alloc | apply IsS143.drewN | apply IsS143.drew | apply IsS143.set_1 | apply IsS143.set_2 | refine IsS143.far ?_ NB0_362.out _ | refine IsS143.far ?_ NB0_366.out _ | refine IsS143.far ?_ NB0_401.out _) | exact HI0.out), by repeat (first | (with_reducible first | exact HB.out | apply below_alloc | apply pw_below_drewN | apply below_drew1 | refine below_set ?_ (IsS143.ge HI0.out) | refine below_set ?_ GE362.out | refine below_set ?_ GE366.out | refine below_set ?_ GE401.out) | exact HB.out), by repeat (first | (with_reducible first | exact HK.out | apply KeepBut.set_ | apply keep_drewN | apply keep_drew | apply keep_alloc | refine keep_far ?_ GW362.out _ | refine keep_far ?_ GW366.out _ | refine keep_far ?_ GW401.out _) | exact HK.out)⟩
              · replace c49 := Bool.eq_false_iff.mpr c49
                subst c49
                rw [if_neg nf] at H
                simp only [Option.some.injEq, Prod.mk.injEq] at H
                obtain ⟨rfl, rfl, rfl, rfl, rfl⟩ := H
                have hnb61 := NB366_362.out
                have hnc61 := NB362_366.out
                have hnb62 := NB366_0.out
                have hnc62 := NB0_366.out
                obtain ⟨z63_0, z63_1, z63_2, y63_0, y63_1, y63_2⟩ := bq3 BK366
                go_wp2_with (first | ((with_reducible refine gate_callee (f := 190) rfl ?_); refine gl (some 36) Tryd.func190 #[.agg #[.int .i64 x367000_27, .int .i64 x367001_27, .int .i64 x367002_27]] ?_; (with_reducible refine (spec_l01Num.calls kj27 x367000_27 x367001_27 x367002_27 t397 t398 t399 false _ A48.out).mono ?_); rintro e w64 ⟨rfl, hb⟩; refine ⟨_, rfl, ?_⟩; replace BK362 := bb BK362 hb; replace BK366 := bb BK366 hb; replace HK := Aside0.mk (KeepBut.trans (by repeat (first | (with_reducible first | exact HK.out | apply KeepBut.set_ | apply keep_drewN | apply keep_drew | apply keep_alloc | refine keep_far ?_ GW362.out _ | refine keep_far ?_ GW366.out _) | exact HK.out)) (KeepBut.of_below hb g none) (.inl rfl)); replace HB := Aside0.mk (below_step (by repeat (first | (with_reducible first | exact HB.out | apply below_alloc | apply pw_below_drewN | apply below_drew1 | refine below_set ?_ (IsS143.ge HI0.out) | refine below_set ?_ GE362.out | refine below_set ?_ GE366.out) | exact HB.out)) hb); replace HI0 := Aside0.mk (IsS143.below (by repeat (first | (with_reducible first | exact HI0.out | apply IsS143.alloc | apply IsS143.drewN | apply IsS143.drew | apply IsS143.set_1 | apply IsS143.set_2 | refine IsS143.far ?_ NB0_362.out _ | refine IsS143.far ?_ NB0_366.out _) | exact HI0.out)) hb); (try clear hb); (try clear hb2); (try clear hk); (try clear hi)) | ((with_reducible refine gate_dst (N := 4) rfl ?_); refine bx #[.int .i64 0, .int .i64 0, .int .i64 0] 30 ?_; intro gb401 hg w65 hbox hb; have BK401 := Aside0.mk hbox; have GW401 := Aside0.mk ((by rw [hg]; exact (keep_size (w := w) (g := g) (row := none) (by repeat (first | (with_reducible first | exact HK.out | apply KeepBut.set_ | apply keep_drewN | apply keep_drew | apply keep_alloc | refine keep_far ?_ GW362.out _ | refine keep_far ?_ GW366.out _) | exact HK.out))) : w.heap.size ≤ gb401)); have GE401 := Aside0.mk ((Nat.le_trans HW0.out (by rw [hg]; exact (keep_size (w := w) (g := g) (row := none) (by repeat (first | (with_reducible first | exact HK.out | apply KeepBut.set_ | apply keep_drewN | apply keep_drew | apply keep_alloc | refine keep_far ?_ GW362.out _ | refine keep_far ?_ GW366.out _) | exact HK.out))) : w.heap.size ≤ gb401) : w0.heap.size ≤ gb401)); have NB362_401 := bl BK362 hg; have NB401_362 := bv BK362 hg; have NB366_401 := bl BK366 hg; have NB401_366 := bv BK366 hg; have NB0_401 := Aside0.mk ((by rw [hg]; exact Nat.ne_of_lt (IsS143.lt (show IsS143 w0 _ g s0_0 x1001_27 x1002_27 from by repeat (first | (with_reducible first | exact HI0.out | apply IsS143.alloc | apply IsS143.drewN | apply IsS143.drew | apply IsS143.set_1 | apply IsS143.set_2 | refine IsS143.far ?_ NB0_362.out _ | refine IsS143.far ?_ NB0_366.out _) | exact HI0.out))) : g ≠ gb401)); have NB401_0 := Aside0.mk ((by rw [hg]; exact Nat.ne_of_gt (IsS143.lt (show IsS143 w0 _ g s0_0 x1001_27 x1002_27 from by repeat (first | (with_reducible first | exact HI0.out | apply IsS143.alloc | apply IsS143.drewN | apply IsS143.drew | apply IsS143.set_1 | apply IsS143.set_2 | refine IsS143.far ?_ NB0_362.out _ | refine IsS143.far ?_ NB0_366.out _) | exact HI0.out))) : gb401 ≠ g)); replace BK362 := bb BK362 hb; replace BK366 := bb BK366 hb; replace HK := Aside0.mk (KeepBut.trans (by repeat (first | (with_reducible first | exact HK.out | apply KeepBut.set_ | apply keep_drewN | apply keep_drew | apply keep_alloc | refine keep_far ?_ GW362.out _ | refine keep_far ?_ GW366.out _) | exact HK.out)) (KeepBut.of_below hb g none) (.inl rfl)); replace HB := Aside0.mk (below_step (by repeat (first | (with_reducible first | exact HB.out | apply below_alloc | apply pw_below_drewN | apply below_drew1 | refine below_set ?_ (IsS143.ge HI0.out) | refine below_set ?_ GE362.out | refine below_set ?_ GE366.out) | exact HB.out)) hb); replace HI0 := Aside0.mk (IsS143.below (by repeat (first | (with_reducible first | exact HI0.out | apply IsS143.alloc | apply IsS143.drewN | apply IsS143.drew | apply IsS143.set_1 | apply IsS143.set_2 | refine IsS143.far ?_ NB0_362.out _ | refine IsS143.far ?_ NB0_366.out _) | exact HI0.out)) hb); clear hb hbox hg; have hnb66 := NB401_362.out; have hnc66 := NB362_401.out; have hnb67 := NB401_366.out; have hnc67 := NB366_401.out; have hnb68 := NB401_0.out; have hnc68 := NB0_401.out; obtain ⟨z69_0, z69_1, z69_2, y69_0, y69_1, y69_2⟩ := bq3 BK401; have hnb70 := NB362_0.out; have hnc70 := NB0_362.out; obtain ⟨z71_0, z71_1, z71_2, y71_0, y71_1, y71_2⟩ := bq3 BK362))
                refine bodyPost_ret (results_cell_row rfl _ _ gb362 30 #[.int .i64 1, .int .i64 0, .int .i64 0] (0, 0) _ rfl (by refine bk (h := ?_); refine blk_put (cs := #[.int .i64 1, .int .i64 0, .int .i64 0]) ?_ 2 _ rfl; refine bk (h := ?_); refine blk_put (cs := #[.int .i64 1, .int .i64 0, .int .i64 0]) ?_ 1 _ rfl; refine bk (h := ?_); refine blk_put (cs := #[.int .i64 0, .int .i64 0, .int .i64 0]) ?_ 0 _ rfl; refine bk (h := ?_); refine blk_far ?_ NB362_401.out _; refine bk (h := ?_); refine blk_far ?_ NB362_401.out _; refine bk (h := ?_); refine blk_far ?_ NB362_401.out _; refine bk (h := ?_); exact BK362.out) Tryd.underlying30 rfl (by kernel_rfl)) rfl ?_
                exact ⟨er, by repeat (first | (with_reducible first | exact HI0.out | apply IsS143.alloc | apply IsS143.drewN | apply IsS143.drew | apply IsS143.set_1 | apply IsS143.set_2 | refine IsS143.far ?_ NB0_362.out _ | refine IsS143.far ?_ NB0_366.out _ | refine IsS143.far ?_ NB0_401.out _) | exact HI0.out), by repeat (first | (with_reducible first | exact HB.out | apply below_alloc | apply pw_below_drewN | apply below_drew1 | refine below_set ?_ (IsS143.ge HI0.out) | refine below_set ?_ GE362.out | refine below_set ?_ GE366.out | refine below_set ?_ GE401.out) | exact HB.out), by repeat (first | (with_reducible first | exact HK.out | apply KeepBut.set_ | apply keep_drewN | apply keep_drew | apply keep_alloc | refine keep_far ?_ GW362.out _ | refine keep_far ?_ GW366.out _ | refine keep_far ?_ GW401.out _) | exact HK.out)⟩

/-! ### spec_l02DrawLine: function 112 -/
def spec_l02DrawLine.f (k : Nat) (s0_0 : List Int) (s0_1 : Int) (s0_2 : Int) : Option (Int × Int × Int × Int × Int × Int) := (spec_l00Src_pick.f k s0_0 s0_1 s0_2 8).bind fun bt403 => ((spec_l01Draw.f k s0_0 bt403.2.1 bt403.2.2).bind fun bt406 => (some (bt403.1, bt406.1, bt406.2.1, bt406.2.2.1, bt406.2.2.2.1, bt406.2.2.2.2)))
theorem spec_l02DrawLine.mono : ∀ a0 a1 a2 k, LeO (spec_l02DrawLine.f k a0 a1 a2) (spec_l02DrawLine.f (k + 1) a0 a1 a2) := by
  intro a0 a1 a2 k
  unfold spec_l02DrawLine.f
  repeat' first
      | (with_reducible exact spec_l00Src_pick.mono _ _ _ _ _)
      | (with_reducible exact spec_l01Draw.mono _ _ _ _)
      | (with_reducible exact LeO.refl _)
      | (with_reducible exact LeO.none _)
      | (with_reducible refine LeO.ite ?_ ?_)
      | (with_reducible refine LeO.bind ?_ (fun _ => ?_))
      | exact spec_l00Src_pick.mono _ _ _ _ _
      | exact spec_l01Draw.mono _ _ _ _
      | exact LeO.none _
      | refine LeO.ite ?_ ?_
      | refine LeO.bind ?_ (fun _ => ?_)
set_option maxHeartbeats 8000000 in
set_option maxRecDepth 100000 in
theorem spec_l02DrawLine.calls (k : Nat) (g : Nat) (s0_0 : List Int) (s0_1 : Int) (s0_2 : Int) (r1 : Int) (r2 : Int) (r3 : Int) (r4 : Int) (r5 : Int) (r6 : Int) (w0 w : World) (hI : IsS143 w0 w g s0_0 s0_1 s0_2) (hB : Below w0.heap.size w0 w) (h : spec_l02DrawLine.f k s0_0 s0_1 s0_2 = some (r1, r2, r3, r4, r5, r6)) :
    Calls Tryd.prog 112 #[.pointer (some ⟨g, 0, none⟩)] w fun e w' => e = .returned (.agg #[.int .i64 r1, .int .i64 r2, .int .i64 r3, .int .i64 r4]) ∧ IsS143 w0 w' g s0_0 r5 r6 ∧ Below w0.heap.size w0 w' ∧ KeepBut w w' g none := by
  have hu32 := Tryd.underlying32
  have hu30 := Tryd.underlying30
  have HI0 := Aside0.mk hI
  have HK := Aside0.mk (KeepBut.refl w g none)
  have HL := Aside0.mk hB.size
  clear hI
  have HW0 := Aside0.mk hB.size
  have HB := Aside0.mk hB
  clear hB
  have H : ((spec_l00Src_pick.f k s0_0 s0_1 s0_2 8).bind fun bt403 => ((spec_l01Draw.f k s0_0 bt403.2.1 bt403.2.2).bind fun bt406 => (some (bt403.1, bt406.1, bt406.2.1, bt406.2.2.1, bt406.2.2.2.1, bt406.2.2.2.2)))) = some (r1, r2, r3, r4, r5, r6) := h
  clear h
  replace H := Option.bind_eq_some_iff.mp H
  obtain ⟨⟨t403, t404, t405⟩, A20, H⟩ := H
  replace H : ((spec_l01Draw.f k s0_0 t404 t405).bind fun bt406 => (some (t403, bt406.1, bt406.2.1, bt406.2.2.1, bt406.2.2.2.1, bt406.2.2.2.2))) = some (r1, r2, r3, r4, r5, r6) := H
  have A2 := Aside0.mk A20
  clear A20
  replace H := Option.bind_eq_some_iff.mp H
  obtain ⟨⟨t406, t407, t408, t409, t410⟩, A30, H⟩ := H
  replace H : (some (t403, t406, t407, t408, t409, t410)) = some (r1, r2, r3, r4, r5, r6) := H
  have A3 := Aside0.mk A30
  clear A30
  simp only [Option.some.injEq, Prod.mk.injEq] at H
  obtain ⟨rfl, rfl, rfl, rfl, rfl, rfl⟩ := H
  go_enter Tryd.func112, Tryd.ntmps112
  go_wp2_with (first | ((with_reducible refine gate_dst (N := 2) rfl ?_); refine bx #[.int .i64 0, .int .i64 0, .int .i64 0, .int .i64 0] 32 ?_; intro gb402 hg w4 hbox hb; have BK402 := Aside0.mk hbox; have GW402 := Aside0.mk ((by rw [hg]; exact (keep_size (w := w) (g := g) (row := none) (by repeat (first | (with_reducible first | exact HK.out | apply KeepBut.set_ | apply keep_drewN | apply keep_drew | apply keep_alloc) | exact HK.out))) : w.heap.size ≤ gb402)); have GE402 := Aside0.mk ((Nat.le_trans HW0.out (by rw [hg]; exact (keep_size (w := w) (g := g) (row := none) (by repeat (first | (with_reducible first | exact HK.out | apply KeepBut.set_ | apply keep_drewN | apply keep_drew | apply keep_alloc) | exact HK.out))) : w.heap.size ≤ gb402) : w0.heap.size ≤ gb402)); have NB0_402 := Aside0.mk ((by rw [hg]; exact Nat.ne_of_lt (IsS143.lt (show IsS143 w0 _ g s0_0 s0_1 s0_2 from by repeat (first | (with_reducible first | exact HI0.out | apply IsS143.alloc | apply IsS143.drewN | apply IsS143.drew | apply IsS143.set_1 | apply IsS143.set_2) | exact HI0.out))) : g ≠ gb402)); have NB402_0 := Aside0.mk ((by rw [hg]; exact Nat.ne_of_gt (IsS143.lt (show IsS143 w0 _ g s0_0 s0_1 s0_2 from by repeat (first | (with_reducible first | exact HI0.out | apply IsS143.alloc | apply IsS143.drewN | apply IsS143.drew | apply IsS143.set_1 | apply IsS143.set_2) | exact HI0.out))) : gb402 ≠ g)); replace HK := Aside0.mk (KeepBut.trans (by repeat (first | (with_reducible first | exact HK.out | apply KeepBut.set_ | apply keep_drewN | apply keep_drew | apply keep_alloc) | exact HK.out)) (KeepBut.of_below hb g none) (.inl rfl)); replace HB := Aside0.mk (below_step (by repeat (first | (with_reducible first | exact HB.out | apply below_alloc | apply pw_below_drewN | apply below_drew1 | refine below_set ?_ (IsS143.ge HI0.out)) | exact HB.out)) hb); replace HI0 := Aside0.mk (IsS143.below (by repeat (first | (with_reducible first | exact HI0.out | apply IsS143.alloc | apply IsS143.drewN | apply IsS143.drew | apply IsS143.set_1 | apply IsS143.set_2) | exact HI0.out)) hb); clear hb hbox hg) | ((with_reducible refine gate_callee (f := 71) rfl ?_); refine gl (some 6) Tryd.func71 #[.pointer (some ⟨g, 0, none⟩), .int .i64 8] ?_; (with_reducible refine (spec_l00Src_pick.calls k g s0_0 s0_1 s0_2 8 t403 t404 t405 w0 _ ?side1 ?side2 A2.out).mono ?_); (case side1 => repeat (first | (with_reducible first | exact HI0.out | apply IsS143.alloc | apply IsS143.drewN | apply IsS143.drew | apply IsS143.set_1 | apply IsS143.set_2 | refine IsS143.far ?_ NB0_402.out _) | exact HI0.out)); (case side2 => repeat (first | (with_reducible first | exact HB.out | apply below_alloc | apply pw_below_drewN | apply below_drew1 | refine below_set ?_ (IsS143.ge HI0.out) | refine below_set ?_ GE402.out) | exact HB.out)); rintro e w5 ⟨rfl, hi, hb, hk⟩; refine ⟨_, rfl, ?_⟩; replace BK402 := Aside0.mk (KeepBut.blk hk (g' := gb402) (o := .cells #[.int .i64 0, .int .i64 0, .int .i64 0, .int .i64 0] 32 (0, 0)) (by refine bk (h := ?_); exact BK402.out) NB402_0.out (by simp)); replace HK := Aside0.mk (KeepBut.trans (by repeat (first | (with_reducible first | exact HK.out | apply KeepBut.set_ | apply keep_drewN | apply keep_drew | apply keep_alloc | refine keep_far ?_ GW402.out _) | exact HK.out)) hk (.inl rfl)); replace HB := Aside0.mk (hb); replace HI0 := Aside0.mk (hi); (try clear hb); (try clear hb2); (try clear hk); (try clear hi)) | ((with_reducible refine gate_callee (f := 153) rfl ?_); refine gl (some 8) Tryd.func153 #[.pointer (some ⟨g, 0, none⟩)] ?_; (with_reducible refine (spec_l01Draw.calls k g s0_0 t404 t405 t406 t407 t408 t409 t410 w0 _ ?side1 ?side2 A3.out).mono ?_); (case side1 => repeat (first | (with_reducible first | exact HI0.out | apply IsS143.alloc | apply IsS143.drewN | apply IsS143.drew | apply IsS143.set_1 | apply IsS143.set_2 | refine IsS143.far ?_ NB0_402.out _) | exact HI0.out)); (case side2 => repeat (first | (with_reducible first | exact HB.out | apply below_alloc | apply pw_below_drewN | apply below_drew1 | refine below_set ?_ (IsS143.ge HI0.out) | refine below_set ?_ GE402.out) | exact HB.out)); rintro e w6 ⟨rfl, hi, hb, hk⟩; refine ⟨_, rfl, ?_⟩; replace BK402 := Aside0.mk (KeepBut.blk hk (g' := gb402) (o := .cells #[.int .i64 0, .int .i64 0, .int .i64 0, .int .i64 0] 32 (0, 0)) (by refine bk (h := ?_); exact BK402.out) NB402_0.out (by simp)); replace HK := Aside0.mk (KeepBut.trans (by repeat (first | (with_reducible first | exact HK.out | apply KeepBut.set_ | apply keep_drewN | apply keep_drew | apply keep_alloc | refine keep_far ?_ GW402.out _) | exact HK.out)) hk (.inl rfl)); replace HB := Aside0.mk (hb); replace HI0 := Aside0.mk (hi); (try clear hb); (try clear hb2); (try clear hk); (try clear hi)) | ((with_reducible refine gate_dst (N := 4) rfl ?_); refine bx #[.int .i64 0, .int .i64 0, .int .i64 0] 30 ?_; intro gb411 hg w7 hbox hb; have BK411 := Aside0.mk hbox; have GW411 := Aside0.mk ((by rw [hg]; exact (keep_size (w := w) (g := g) (row := none) (by repeat (first | (with_reducible first | exact HK.out | apply KeepBut.set_ | apply keep_drewN | apply keep_drew | apply keep_alloc | refine keep_far ?_ GW402.out _) | exact HK.out))) : w.heap.size ≤ gb411)); have GE411 := Aside0.mk ((Nat.le_trans HW0.out (by rw [hg]; exact (keep_size (w := w) (g := g) (row := none) (by repeat (first | (with_reducible first | exact HK.out | apply KeepBut.set_ | apply keep_drewN | apply keep_drew | apply keep_alloc | refine keep_far ?_ GW402.out _) | exact HK.out))) : w.heap.size ≤ gb411) : w0.heap.size ≤ gb411)); have NB402_411 := bl BK402 hg; have NB411_402 := bv BK402 hg; have NB0_411 := Aside0.mk ((by rw [hg]; exact Nat.ne_of_lt (IsS143.lt (show IsS143 w0 _ g s0_0 t409 t410 from by repeat (first | (with_reducible first | exact HI0.out | apply IsS143.alloc | apply IsS143.drewN | apply IsS143.drew | apply IsS143.set_1 | apply IsS143.set_2 | refine IsS143.far ?_ NB0_402.out _) | exact HI0.out))) : g ≠ gb411)); have NB411_0 := Aside0.mk ((by rw [hg]; exact Nat.ne_of_gt (IsS143.lt (show IsS143 w0 _ g s0_0 t409 t410 from by repeat (first | (with_reducible first | exact HI0.out | apply IsS143.alloc | apply IsS143.drewN | apply IsS143.drew | apply IsS143.set_1 | apply IsS143.set_2 | refine IsS143.far ?_ NB0_402.out _) | exact HI0.out))) : gb411 ≠ g)); replace BK402 := bb BK402 hb; replace HK := Aside0.mk (KeepBut.trans (by repeat (first | (with_reducible first | exact HK.out | apply KeepBut.set_ | apply keep_drewN | apply keep_drew | apply keep_alloc | refine keep_far ?_ GW402.out _) | exact HK.out)) (KeepBut.of_below hb g none) (.inl rfl)); replace HB := Aside0.mk (below_step (by repeat (first | (with_reducible first | exact HB.out | apply below_alloc | apply pw_below_drewN | apply below_drew1 | refine below_set ?_ (IsS143.ge HI0.out) | refine below_set ?_ GE402.out) | exact HB.out)) hb); replace HI0 := Aside0.mk (IsS143.below (by repeat (first | (with_reducible first | exact HI0.out | apply IsS143.alloc | apply IsS143.drewN | apply IsS143.drew | apply IsS143.set_1 | apply IsS143.set_2 | refine IsS143.far ?_ NB0_402.out _) | exact HI0.out)) hb); clear hb hbox hg; have hnb8 := NB411_402.out; have hnc8 := NB402_411.out; have hnb9 := NB411_0.out; have hnc9 := NB0_411.out; obtain ⟨z10_0, z10_1, z10_2, y10_0, y10_1, y10_2⟩ := bq3 BK411; have hnb11 := NB402_0.out; have hnc11 := NB0_402.out; obtain ⟨z12_0, z12_1, z12_2, z12_3, y12_0, y12_1, y12_2, y12_3⟩ := bq4 BK402))
  refine bodyPost_ret (results_cell_row rfl _ _ gb402 32 #[.int .i64 t403, .int .i64 t406, .int .i64 t407, .int .i64 t408] (0, 0) _ rfl (by refine bk (h := ?_); refine blk_put (cs := #[.int .i64 t403, .int .i64 t406, .int .i64 t407, .int .i64 0]) ?_ 3 _ rfl; refine bk (h := ?_); refine blk_put (cs := #[.int .i64 t403, .int .i64 t406, .int .i64 0, .int .i64 0]) ?_ 2 _ rfl; refine bk (h := ?_); refine blk_put (cs := #[.int .i64 t403, .int .i64 0, .int .i64 0, .int .i64 0]) ?_ 1 _ rfl; refine bk (h := ?_); refine blk_put (cs := #[.int .i64 0, .int .i64 0, .int .i64 0, .int .i64 0]) ?_ 0 _ rfl; refine bk (h := ?_); refine blk_far ?_ NB402_411.out _; refine bk (h := ?_); refine blk_far ?_ NB402_411.out _; refine bk (h := ?_); refine blk_far ?_ NB402_411.out _; refine bk (h := ?_); exact BK402.out) Tryd.underlying32 rfl (by kernel_rfl)) rfl ?_
  exact ⟨er, by repeat (first | (with_reducible first | exact HI0.out | apply IsS143.alloc | apply IsS143.drewN | apply IsS143.drew | apply IsS143.set_1 | apply IsS143.set_2 | refine IsS143.far ?_ NB0_402.out _ | refine IsS143.far ?_ NB0_411.out _) | exact HI0.out), by repeat (first | (with_reducible first | exact HB.out | apply below_alloc | apply pw_below_drewN | apply below_drew1 | refine below_set ?_ (IsS143.ge HI0.out) | refine below_set ?_ GE402.out | refine below_set ?_ GE411.out) | exact HB.out), by repeat (first | (with_reducible first | exact HK.out | apply KeepBut.set_ | apply keep_drewN | apply keep_drew | apply keep_alloc | refine keep_far ?_ GW402.out _ | refine keep_far ?_ GW411.out _) | exact HK.out)⟩

end Go.Proofs.YteadienaeapaeaaDoor.PW
