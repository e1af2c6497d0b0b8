-- Made by a program of this session (myprint.py) out of the translation.
import Derived.Test.YteadienaeapaeaaDoorZprPWx0
import Derived.Test.YteadienaeapaeaaDoorZprPWx19
import Derived.Test.YteadienaeapaeaaDoorZprPWx21
import Derived.Test.YteadienaeapaeaaDoorZprShort
namespace Go.Proofs.YteadienaeapaeaaDoor.PW
open Go.Proofs.YteadienaeapaeaaDoor.Short
open Go.Proofs.YteadienaeapaeaaDoor.Dyn
open Go.RowKit Go.Proofs.YteadienaeapaeaaDoorW.PrintWords Go.Proofs.YteadienaeapaeaaDoorW.PrintLast Go.Proofs.YteadienaeapaeaaDoorW.PrintMore
attribute [local go_sem] max2_int min2_int max_two min_two max_three min_three max_four min_four   -- for this text's walks alone
set_option linter.unusedVariables false
set_option linter.unusedSimpArgs false

/-! ### spec_l27Draw: function 72 -/
mutual
def spec_l27Draw.j0 : Nat → List Int → Int → Int → Int → ByteArray → Int → Int → Int → Int → Int → Int → Bool → Option (Int × ByteArray × Int × Int × Int × Int × Int × Int × Bool × Int × Int)
  | 0, _, _, _, _, _, _, _, _, _, _, _, _ => none
  | k + 1, x1000, x1001, x1002, x417000, x417001, x417002, x417003, x417004, x417005, x417006, x417007, x417008 => if x417000 = 4 then ((spec_l27Name.f k x1000 x1001 x1002).bind fun bt420 => ((spec_l02DrawLine.f k x1000 bt420.2.1 bt420.2.2).bind fun bt423 => (some (x417000, bt420.1, bt423.1, bt423.2.1, bt423.2.2.1, bt423.2.2.2.1, x417006, x417007, x417008, bt423.2.2.2.2.1, bt423.2.2.2.2.2)))) else (if x417000 = 1 then (spec_l27Draw.j1 k (x417000 == 1) x1000 x1001 x1002 x417000 x417001 x417002 x417003 x417004 x417005 x417006 x417007 x417008) else (spec_l27Draw.j1 k (x417000 == 2) x1000 x1001 x1002 x417000 x417001 x417002 x417003 x417004 x417005 x417006 x417007 x417008))
def spec_l27Draw.j1 : Nat → Bool → List Int → Int → Int → Int → ByteArray → Int → Int → Int → Int → Int → Int → Bool → Option (Int × ByteArray × Int × Int × Int × Int × Int × Int × Bool × Int × Int)
  | 0, _, _, _, _, _, _, _, _, _, _, _, _, _ => none
  | k + 1, x21, x1000, x1001, x1002, x417000, x417001, x417002, x417003, x417004, x417005, x417006, x417007, x417008 => if x21 = true then ((spec_l00Src_pick.f k x1000 x1001 x1002 2).bind fun bt429 => ((spec_l00Src_one.f k x1000 bt429.2.1 bt429.2.2 2).bind fun bt432 => (if x417000 = 2 then ((spec_l00Src_pick.f k x1000 bt432.2.1 bt432.2.2 24).bind fun bt435 => (spec_l27Draw.j2 k x1000 bt435.2.1 bt435.2.2 x417000 x417001 x417002 x417003 x417004 x417005 (wrap64 (1 - (wrap64 (2 * bt429.1)))) bt435.1 bt432.1)) else (spec_l27Draw.j2 k x1000 bt432.2.1 bt432.2.2 x417000 x417001 x417002 x417003 x417004 x417005 (wrap64 (1 - (wrap64 (2 * bt429.1)))) x417007 bt432.1)))) else (some (x417000, x417001, x417002, x417003, x417004, x417005, x417006, x417007, x417008, x1001, x1002))
def spec_l27Draw.j2 : Nat → List Int → Int → Int → Int → ByteArray → Int → Int → Int → Int → Int → Int → Bool → Option (Int × ByteArray × Int × Int × Int × Int × Int × Int × Bool × Int × Int)
  | 0, _, _, _, _, _, _, _, _, _, _, _, _ => none
  | k + 1, x1000, x1001, x1002, x417000, x417001, x417002, x417003, x417004, x417005, x417006, x417007, x417008 => (spec_l00Src_one.f k x1000 x1001 x1002 4).bind fun bt438 => (if bt438.1 = true then ((spec_l27Name.f k x1000 bt438.2.1 bt438.2.2).bind fun bt441 => (some (x417000, bt441.1, x417002, x417003, x417004, x417005, x417006, x417007, x417008, bt441.2.1, bt441.2.2))) else ((spec_l02DrawLine.f k x1000 bt438.2.1 bt438.2.2).bind fun bt444 => (some (x417000, x417001, bt444.1, bt444.2.1, bt444.2.2.1, bt444.2.2.2.1, x417006, x417007, x417008, bt444.2.2.2.2.1, bt444.2.2.2.2.2))))
end
def spec_l27Draw.f (k : Nat) (s0_0 : List Int) (s0_1 : Int) (s0_2 : Int) : Option (Int × ByteArray × Int × Int × Int × Int × Int × Int × Bool × Int × Int) := (spec_l00Src_pick.f k s0_0 s0_1 s0_2 6).bind fun bt413 => ((spec_l00Src_one.f k s0_0 bt413.2.1 bt413.2.2 3).bind fun bt417 => (if bt417.1 = true then (spec_l27Draw.j0 k s0_0 bt417.2.1 bt417.2.2 1 (⟨#[]⟩ : ByteArray) 0 0 0 0 0 0 false) else (spec_l27Draw.j0 k s0_0 bt417.2.1 bt417.2.2 (wrap64 (1 + bt413.1)) (⟨#[]⟩ : ByteArray) 0 0 0 0 0 0 false)))
theorem spec_l27Draw.mono_l : ∀ k, (∀ y0 y1 y2 y3 y4 y5 y6 y7 y8 y9 y10 y11, LeO (spec_l27Draw.j0 k y0 y1 y2 y3 y4 y5 y6 y7 y8 y9 y10 y11) (spec_l27Draw.j0 (k + 1) y0 y1 y2 y3 y4 y5 y6 y7 y8 y9 y10 y11)) ∧ (∀ y0 y1 y2 y3 y4 y5 y6 y7 y8 y9 y10 y11 y12, LeO (spec_l27Draw.j1 k y0 y1 y2 y3 y4 y5 y6 y7 y8 y9 y10 y11 y12) (spec_l27Draw.j1 (k + 1) y0 y1 y2 y3 y4 y5 y6 y7 y8 y9 y10 y11 y12)) ∧ (∀ y0 y1 y2 y3 y4 y5 y6 y7 y8 y9 y10 y11, LeO (spec_l27Draw.j2 k y0 y1 y2 y3 y4 y5 y6 y7 y8 y9 y10 y11) (spec_l27Draw.j2 (k + 1) y0 y1 y2 y3 y4 y5 y6 y7 y8 y9 y10 y11))
  | 0 => ⟨fun _ _ _ _ _ _ _ _ _ _ _ _ r h => by simp [spec_l27Draw.j0] at h, fun _ _ _ _ _ _ _ _ _ _ _ _ _ r h => by simp [spec_l27Draw.j1] at h, fun _ _ _ _ _ _ _ _ _ _ _ _ r h => by simp [spec_l27Draw.j2] at h⟩
  | k + 1 => by
    obtain ⟨ih0, ih1, ih2⟩ := spec_l27Draw.mono_l k
    refine ⟨?_, ?_, ?_⟩
    · intro y0 y1 y2 y3 y4 y5 y6 y7 y8 y9 y10 y11
      unfold spec_l27Draw.j0
      repeat' first
      | (with_reducible exact ih0 _ _ _ _ _ _ _ _ _ _ _ _)
      | (with_reducible exact ih1 _ _ _ _ _ _ _ _ _ _ _ _ _)
      | (with_reducible exact ih2 _ _ _ _ _ _ _ _ _ _ _ _)
      | (with_reducible exact spec_l00Src_one.mono _ _ _ _ _)
      | (with_reducible exact spec_l00Src_pick.mono _ _ _ _ _)
      | (with_reducible exact spec_l02DrawLine.mono _ _ _ _)
      | (with_reducible exact spec_l27Name.mono _ _ _ _)
      | (with_reducible exact LeO.refl _)
      | (with_reducible exact LeO.none _)
      | (with_reducible refine LeO.ite ?_ ?_)
      | (with_reducible refine LeO.bind ?_ (fun _ => ?_))
      | exact ih0 _ _ _ _ _ _ _ _ _ _ _ _
      | exact ih1 _ _ _ _ _ _ _ _ _ _ _ _ _
      | exact ih2 _ _ _ _ _ _ _ _ _ _ _ _
      | exact spec_l00Src_one.mono _ _ _ _ _
      | exact spec_l00Src_pick.mono _ _ _ _ _
      | exact spec_l02DrawLine.mono _ _ _ _
      | exact spec_l27Name.mono _ _ _ _
      | exact LeO.none _
      | refine LeO.ite ?_ ?_
      | refine LeO.bind ?_ (fun _ => ?_)
    · intro y0 y1 y2 y3 y4 y5 y6 y7 y8 y9 y10 y11 y12
      unfold spec_l27Draw.j1
      repeat' first
      | (with_reducible exact ih0 _ _ _ _ _ _ _ _ _ _ _ _)
      | (with_reducible exact ih1 _ _ _ _ _ _ _ _ _ _ _ _ _)
      | (with_reducible exact ih2 _ _ _ _ _ _ _ _ _ _ _ _)
      | (with_reducible exact spec_l00Src_one.mono _ _ _ _ _)
      | (with_reducible exact spec_l00Src_pick.mono _ _ _ _ _)
      | (with_reducible exact spec_l02DrawLine.mono _ _ _ _)
      | (with_reducible exact spec_l27Name.mono _ _ _ _)
      | (with_reducible exact LeO.refl _)
      | (with_reducible exact LeO.none _)
      | (with_reducible refine LeO.ite ?_ ?_)
      | (with_reducible refine LeO.bind ?_ (fun _ => ?_))
      | exact ih0 _ _ _ _ _ _ _ _ _ _ _ _
      | exact ih1 _ _ _ _ _ _ _ _ _ _ _ _ _
      | exact ih2 _ _ _ _ _ _ _ _ _ _ _ _
      | exact spec_l00Src_one.mono _ _ _ _ _
      | exact spec_l00Src_pick.mono _ _ _ _ _
      | exact spec_l02DrawLine.mono _ _ _ _
      | exact spec_l27Name.mono _ _ _ _
      | exact LeO.none _
      | refine LeO.ite ?_ ?_
      | refine LeO.bind ?_ (fun _ => ?_)
    · intro y0 y1 y2 y3 y4 y5 y6 y7 y8 y9 y10 y11
      unfold spec_l27Draw.j2
      repeat' first
      | (with_reducible exact ih0 _ _ _ _ _ _ _ _ _ _ _ _)
      | (with_reducible exact ih1 _ _ _ _ _ _ _ _ _ _ _ _ _)
      | (with_reducible exact ih2 _ _ _ _ _ _ _ _ _ _ _ _)
      | (with_reducible exact spec_l00Src_one.mono _ _ _ _ _)
      | (with_reducible exact spec_l00Src_pick.mono _ _ _ _ _)
      | (with_reducible exact spec_l02DrawLine.mono _ _ _ _)
      | (with_reducible exact spec_l27Name.mono _ _ _ _)
      | (with_reducible exact LeO.refl _)
      | (with_reducible exact LeO.none _)
      | (with_reducible refine LeO.ite ?_ ?_)
      | (with_reducible refine LeO.bind ?_ (fun _ => ?_))
      | exact ih0 _ _ _ _ _ _ _ _ _ _ _ _
      | exact ih1 _ _ _ _ _ _ _ _ _ _ _ _ _
      | exact ih2 _ _ _ _ _ _ _ _ _ _ _ _
      | exact spec_l00Src_one.mono _ _ _ _ _
      | exact spec_l00Src_pick.mono _ _ _ _ _
      | exact spec_l02DrawLine.mono _ _ _ _
      | exact spec_l27Name.mono _ _ _ _
      | exact LeO.none _
      | refine LeO.ite ?_ ?_
      | refine LeO.bind ?_ (fun _ => ?_)
theorem spec_l27Draw.mono : ∀ a0 a1 a2 k, LeO (spec_l27Draw.f k a0 a1 a2) (spec_l27Draw.f (k + 1) a0 a1 a2) := by
  intro a0 a1 a2 k
  obtain ⟨ih0, ih1, ih2⟩ := spec_l27Draw.mono_l k
  unfold spec_l27Draw.f
  repeat' first
      | (with_reducible exact ih0 _ _ _ _ _ _ _ _ _ _ _ _)
      | (with_reducible exact ih1 _ _ _ _ _ _ _ _ _ _ _ _ _)
      | (with_reducible exact ih2 _ _ _ _ _ _ _ _ _ _ _ _)
      | (with_reducible exact spec_l00Src_one.mono _ _ _ _ _)
      | (with_reducible exact spec_l00Src_pick.mono _ _ _ _ _)
      | (with_reducible exact spec_l02DrawLine.mono _ _ _ _)
      | (with_reducible exact spec_l27Name.mono _ _ _ _)
      | (with_reducible exact LeO.refl _)
      | (with_reducible exact LeO.none _)
      | (with_reducible refine LeO.ite ?_ ?_)
      | (with_reducible refine LeO.bind ?_ (fun _ => ?_))
      | exact ih0 _ _ _ _ _ _ _ _ _ _ _ _
      | exact ih1 _ _ _ _ _ _ _ _ _ _ _ _ _
      | exact ih2 _ _ _ _ _ _ _ _ _ _ _ _
      | exact spec_l00Src_one.mono _ _ _ _ _
      | exact spec_l00Src_pick.mono _ _ _ _ _
      | exact spec_l02DrawLine.mono _ _ _ _
      | exact spec_l27Name.mono _ _ _ _
      | exact LeO.none _
      | refine LeO.ite ?_ ?_
      | refine LeO.bind ?_ (fun _ => ?_)
set_option maxHeartbeats 8000000 in
set_option maxRecDepth 100000 in
theorem spec_l27Draw.calls (k : Nat) (g : Nat) (s0_0 : List Int) (s0_1 : Int) (s0_2 : Int) (r1 : Int) (r2 : ByteArray) (r3 : Int) (r4 : Int) (r5 : Int) (r6 : Int) (r7 : Int) (r8 : Int) (r9 : Bool) (r10 : Int) (r11 : Int) (w0 w : World) (hI : IsS143 w0 w g s0_0 s0_1 s0_2) (hB : Below w0.heap.size w0 w) (h : spec_l27Draw.f k s0_0 s0_1 s0_2 = some (r1, r2, r3, r4, r5, r6, r7, r8, r9, r10, r11)) :
    Calls Tryd.prog 72 #[.pointer (some ⟨g, 0, none⟩)] w fun e w' => e = .returned (.agg #[.int .i64 r1, .string r2, .int .i64 r3, .int .i64 r4, .int .i64 r5, .int .i64 r6, .int .i64 r7, .int .i64 r8, .bool r9]) ∧ IsS143 w0 w' g s0_0 r10 r11 ∧ Below w0.heap.size w0 w' ∧ KeepBut w w' g none := by
  have hu34 := Tryd.underlying34
  have hu32 := Tryd.underlying32
  have HI0 := Aside0.mk hI
  have HK := Aside0.mk (KeepBut.refl w g none)
  have HL := Aside0.mk hB.size
  clear hI
  have HW0 := Aside0.mk hB.size
  have HB := Aside0.mk hB
  clear hB
  have H : ((spec_l00Src_pick.f k s0_0 s0_1 s0_2 6).bind fun bt413 => ((spec_l00Src_one.f k s0_0 bt413.2.1 bt413.2.2 3).bind fun bt417 => (if bt417.1 = true then (spec_l27Draw.j0 k s0_0 bt417.2.1 bt417.2.2 1 (⟨#[]⟩ : ByteArray) 0 0 0 0 0 0 false) else (spec_l27Draw.j0 k s0_0 bt417.2.1 bt417.2.2 (wrap64 (1 + bt413.1)) (⟨#[]⟩ : ByteArray) 0 0 0 0 0 0 false)))) = some (r1, r2, r3, r4, r5, r6, r7, r8, r9, r10, r11) := h
  clear h
  replace H := Option.bind_eq_some_iff.mp H
  obtain ⟨⟨t413, t414, t415⟩, A20, H⟩ := H
  replace H : ((spec_l00Src_one.f k s0_0 t414 t415 3).bind fun bt417 => (if bt417.1 = true then (spec_l27Draw.j0 k s0_0 bt417.2.1 bt417.2.2 1 (⟨#[]⟩ : ByteArray) 0 0 0 0 0 0 false) else (spec_l27Draw.j0 k s0_0 bt417.2.1 bt417.2.2 (wrap64 (1 + t413)) (⟨#[]⟩ : ByteArray) 0 0 0 0 0 0 false))) = some (r1, r2, r3, r4, r5, r6, r7, r8, r9, r10, r11) := H
  have A2 := Aside0.mk A20
  clear A20
  replace H := Option.bind_eq_some_iff.mp H
  obtain ⟨⟨t417, t418, t419⟩, A30, H⟩ := H
  replace H : (if t417 = true then (spec_l27Draw.j0 k s0_0 t418 t419 1 (⟨#[]⟩ : ByteArray) 0 0 0 0 0 0 false) else (spec_l27Draw.j0 k s0_0 t418 t419 (wrap64 (1 + t413)) (⟨#[]⟩ : ByteArray) 0 0 0 0 0 0 false)) = some (r1, r2, r3, r4, r5, r6, r7, r8, r9, r10, r11) := H
  have A3 := Aside0.mk A30
  clear A30
  have HC4 := Aside0.mk H
  clear H
  go_enter Tryd.func72, Tryd.ntmps72
  go_upto_if 9 with (first | ((with_reducible refine gate_dst (N := 2) rfl ?_); refine bx #[.int .i64 0, .string (⟨#[]⟩ : ByteArray), .int .i64 0, .int .i64 0, .int .i64 0, .int .i64 0, .int .i64 0, .int .i64 0, .bool false] 34 ?_; intro gb412 hg w5 hbox hb; have BK412 := Aside0.mk hbox; have GW412 := Aside0.mk ((by rw [hg]; exact (keep_size (w := w) (g := g) (row := none) (by repeat (first | (with_reducible first | exact HK.out | apply KeepBut.set_ | apply keep_drewN | apply keep_drew | apply keep_alloc) | exact HK.out))) : w.heap.size ≤ gb412)); have GE412 := Aside0.mk ((Nat.le_trans HW0.out (by rw [hg]; exact (keep_size (w := w) (g := g) (row := none) (by repeat (first | (with_reducible first | exact HK.out | apply KeepBut.set_ | apply keep_drewN | apply keep_drew | apply keep_alloc) | exact HK.out))) : w.heap.size ≤ gb412) : w0.heap.size ≤ gb412)); have NB0_412 := Aside0.mk ((by rw [hg]; exact Nat.ne_of_lt (IsS143.lt (show IsS143 w0 _ g s0_0 s0_1 s0_2 from by repeat (first | (with_reducible first | exact HI0.out | apply IsS143.alloc | apply IsS143.drewN | apply IsS143.drew | apply IsS143.set_1 | apply IsS143.set_2) | exact HI0.out))) : g ≠ gb412)); have NB412_0 := Aside0.mk ((by rw [hg]; exact Nat.ne_of_gt (IsS143.lt (show IsS143 w0 _ g s0_0 s0_1 s0_2 from by repeat (first | (with_reducible first | exact HI0.out | apply IsS143.alloc | apply IsS143.drewN | apply IsS143.drew | apply IsS143.set_1 | apply IsS143.set_2) | exact HI0.out))) : gb412 ≠ g)); replace HK := Aside0.mk (KeepBut.trans (by repeat (first | (with_reducible first | exact HK.out | apply KeepBut.set_ | apply keep_drewN | apply keep_drew | apply keep_alloc) | exact HK.out)) (KeepBut.of_below hb g none) (.inl rfl)); replace HB := Aside0.mk (below_step (by repeat (first | (with_reducible first | exact HB.out | apply below_alloc | apply pw_below_drewN | apply below_drew1 | refine below_set ?_ (IsS143.ge HI0.out)) | exact HB.out)) hb); replace HI0 := Aside0.mk (IsS143.below (by repeat (first | (with_reducible first | exact HI0.out | apply IsS143.alloc | apply IsS143.drewN | apply IsS143.drew | apply IsS143.set_1 | apply IsS143.set_2) | exact HI0.out)) hb); clear hb hbox hg) | ((with_reducible refine gate_callee (f := 71) rfl ?_); refine gl (some 5) Tryd.func71 #[.pointer (some ⟨g, 0, none⟩), .int .i64 6] ?_; (with_reducible refine (spec_l00Src_pick.calls k g s0_0 s0_1 s0_2 6 t413 t414 t415 w0 _ ?side1 ?side2 A2.out).mono ?_); (case side1 => repeat (first | (with_reducible first | exact HI0.out | apply IsS143.alloc | apply IsS143.drewN | apply IsS143.drew | apply IsS143.set_1 | apply IsS143.set_2 | refine IsS143.far ?_ NB0_412.out _) | exact HI0.out)); (case side2 => repeat (first | (with_reducible first | exact HB.out | apply below_alloc | apply pw_below_drewN | apply below_drew1 | refine below_set ?_ (IsS143.ge HI0.out) | refine below_set ?_ GE412.out) | exact HB.out)); rintro e w6 ⟨rfl, hi, hb, hk⟩; refine ⟨_, rfl, ?_⟩; replace BK412 := Aside0.mk (KeepBut.blk hk (g' := gb412) (o := .cells #[.int .i64 0, .string (⟨#[]⟩ : ByteArray), .int .i64 0, .int .i64 0, .int .i64 0, .int .i64 0, .int .i64 0, .int .i64 0, .bool false] 34 (0, 0)) (by refine bk (h := ?_); exact BK412.out) NB412_0.out (by simp)); replace HK := Aside0.mk (KeepBut.trans (by repeat (first | (with_reducible first | exact HK.out | apply KeepBut.set_ | apply keep_drewN | apply keep_drew | apply keep_alloc | refine keep_far ?_ GW412.out _) | exact HK.out)) hk (.inl rfl)); replace HB := Aside0.mk (hb); replace HI0 := Aside0.mk (hi); (try clear hb); (try clear hb2); (try clear hk); (try clear hi)) | ((with_reducible refine gate_dst (N := 3) rfl ?_); refine bx #[.int .i64 0, .string (⟨#[]⟩ : ByteArray), .int .i64 0, .int .i64 0, .int .i64 0, .int .i64 0, .int .i64 0, .int .i64 0, .bool false] 34 ?_; intro gb416 hg w7 hbox hb; have BK416 := Aside0.mk hbox; have GW416 := Aside0.mk ((by rw [hg]; exact (keep_size (w := w) (g := g) (row := none) (by repeat (first | (with_reducible first | exact HK.out | apply KeepBut.set_ | apply keep_drewN | apply keep_drew | apply keep_alloc | refine keep_far ?_ GW412.out _) | exact HK.out))) : w.heap.size ≤ gb416)); have GE416 := Aside0.mk ((Nat.le_trans HW0.out (by rw [hg]; exact (keep_size (w := w) (g := g) (row := none) (by repeat (first | (with_reducible first | exact HK.out | apply KeepBut.set_ | apply keep_drewN | apply keep_drew | apply keep_alloc | refine keep_far ?_ GW412.out _) | exact HK.out))) : w.heap.size ≤ gb416) : w0.heap.size ≤ gb416)); have NB412_416 := bl BK412 hg; have NB416_412 := bv BK412 hg; have NB0_416 := Aside0.mk ((by rw [hg]; exact Nat.ne_of_lt (IsS143.lt (show IsS143 w0 _ g s0_0 t414 t415 from by repeat (first | (with_reducible first | exact HI0.out | apply IsS143.alloc | apply IsS143.drewN | apply IsS143.drew | apply IsS143.set_1 | apply IsS143.set_2 | refine IsS143.far ?_ NB0_412.out _) | exact HI0.out))) : g ≠ gb416)); have NB416_0 := Aside0.mk ((by rw [hg]; exact Nat.ne_of_gt (IsS143.lt (show IsS143 w0 _ g s0_0 t414 t415 from by repeat (first | (with_reducible first | exact HI0.out | apply IsS143.alloc | apply IsS143.drewN | apply IsS143.drew | apply IsS143.set_1 | apply IsS143.set_2 | refine IsS143.far ?_ NB0_412.out _) | exact HI0.out))) : gb416 ≠ g)); replace BK412 := bb BK412 hb; replace HK := Aside0.mk (KeepBut.trans (by repeat (first | (with_reducible first | exact HK.out | apply KeepBut.set_ | apply keep_drewN | apply keep_drew | apply keep_alloc | refine keep_far ?_ GW412.out _) | exact HK.out)) (KeepBut.of_below hb g none) (.inl rfl)); replace HB := Aside0.mk (below_step (by repeat (first | (with_reducible first | exact HB.out | apply below_alloc | apply pw_below_drewN | apply below_drew1 | refine below_set ?_ (IsS143.ge HI0.out) | refine below_set ?_ GE412.out) | exact HB.out)) hb); replace HI0 := Aside0.mk (IsS143.below (by repeat (first | (with_reducible first | exact HI0.out | apply IsS143.alloc | apply IsS143.drewN | apply IsS143.drew | apply IsS143.set_1 | apply IsS143.set_2 | refine IsS143.far ?_ NB0_412.out _) | exact HI0.out)) hb); clear hb hbox hg; have hnb8 := NB416_412.out; have hnc8 := NB412_416.out; have hnb9 := NB416_0.out; have hnc9 := NB0_416.out; obtain ⟨z10_0, z10_1, z10_2, z10_3, z10_4, z10_5, z10_6, z10_7, z10_8, y10_0, y10_1, y10_2, y10_3, y10_4, y10_5, y10_6, y10_7, y10_8⟩ := bq9 BK416) | ((with_reducible refine gate_callee (f := 110) rfl ?_); refine gl (some 9) Tryd.func110 #[.pointer (some ⟨g, 0, none⟩), .int .i64 3] ?_; (with_reducible refine (spec_l00Src_one.calls k g s0_0 t414 t415 3 t417 t418 t419 w0 _ ?side1 ?side2 A3.out).mono ?_); (case side1 => repeat (first | (with_reducible first | exact HI0.out | apply IsS143.alloc | apply IsS143.drewN | apply IsS143.drew | apply IsS143.set_1 | apply IsS143.set_2 | refine IsS143.far ?_ NB0_412.out _ | refine IsS143.far ?_ NB0_416.out _) | exact HI0.out)); (case side2 => repeat (first | (with_reducible first | exact HB.out | apply below_alloc | apply pw_below_drewN | apply below_drew1 | refine below_set ?_ (IsS143.ge HI0.out) | refine below_set ?_ GE412.out | refine below_set ?_ GE416.out) | exact HB.out)); rintro e w11 ⟨rfl, hi, hb, hk⟩; refine ⟨_, rfl, ?_⟩; replace BK412 := Aside0.mk (KeepBut.blk hk (g' := gb412) (o := .cells #[.int .i64 0, .string (⟨#[]⟩ : ByteArray), .int .i64 0, .int .i64 0, .int .i64 0, .int .i64 0, .int .i64 0, .int .i64 0, .bool false] 34 (0, 0)) (by refine bk (h := ?_); refine blk_far ?_ NB412_416.out _; refine bk (h := ?_); refine blk_far ?_ NB412_416.out _; refine bk (h := ?_); refine blk_far ?_ NB412_416.out _; refine bk (h := ?_); refine blk_far ?_ NB412_416.out _; refine bk (h := ?_); refine blk_far ?_ NB412_416.out _; refine bk (h := ?_); refine blk_far ?_ NB412_416.out _; refine bk (h := ?_); refine blk_far ?_ NB412_416.out _; refine bk (h := ?_); refine blk_far ?_ NB412_416.out _; refine bk (h := ?_); refine blk_far ?_ NB412_416.out _; refine bk (h := ?_); exact BK412.out) NB412_0.out (by simp)); replace BK416 := Aside0.mk (KeepBut.blk hk (g' := gb416) (o := .cells #[.int .i64 (wrap64 (1 + t413)), .string (⟨#[]⟩ : ByteArray), .int .i64 0, .int .i64 0, .int .i64 0, .int .i64 0, .int .i64 0, .int .i64 0, .bool false] 34 (0, 0)) (by refine bk (h := ?_); refine blk_put (cs := #[.int .i64 (wrap64 (1 + t413)), .string (⟨#[]⟩ : ByteArray), .int .i64 0, .int .i64 0, .int .i64 0, .int .i64 0, .int .i64 0, .int .i64 0, .bool false]) ?_ 8 _ rfl; refine bk (h := ?_); refine blk_put (cs := #[.int .i64 (wrap64 (1 + t413)), .string (⟨#[]⟩ : ByteArray), .int .i64 0, .int .i64 0, .int .i64 0, .int .i64 0, .int .i64 0, .int .i64 0, .bool false]) ?_ 7 _ rfl; refine bk (h := ?_); refine blk_put (cs := #[.int .i64 (wrap64 (1 + t413)), .string (⟨#[]⟩ : ByteArray), .int .i64 0, .int .i64 0, .int .i64 0, .int .i64 0, .int .i64 0, .int .i64 0, .bool false]) ?_ 6 _ rfl; refine bk (h := ?_); refine blk_put (cs := #[.int .i64 (wrap64 (1 + t413)), .string (⟨#[]⟩ : ByteArray), .int .i64 0, .int .i64 0, .int .i64 0, .int .i64 0, .int .i64 0, .int .i64 0, .bool false]) ?_ 5 _ rfl; refine bk (h := ?_); refine blk_put (cs := #[.int .i64 (wrap64 (1 + t413)), .string (⟨#[]⟩ : ByteArray), .int .i64 0, .int .i64 0, .int .i64 0, .int .i64 0, .int .i64 0, .int .i64 0, .bool false]) ?_ 4 _ rfl; refine bk (h := ?_); refine blk_put (cs := #[.int .i64 (wrap64 (1 + t413)), .string (⟨#[]⟩ : ByteArray), .int .i64 0, .int .i64 0, .int .i64 0, .int .i64 0, .int .i64 0, .int .i64 0, .bool false]) ?_ 3 _ rfl; refine bk (h := ?_); refine blk_put (cs := #[.int .i64 (wrap64 (1 + t413)), .string (⟨#[]⟩ : ByteArray), .int .i64 0, .int .i64 0, .int .i64 0, .int .i64 0, .int .i64 0, .int .i64 0, .bool false]) ?_ 2 _ rfl; refine bk (h := ?_); refine blk_put (cs := #[.int .i64 (wrap64 (1 + t413)), .string (⟨#[]⟩ : ByteArray), .int .i64 0, .int .i64 0, .int .i64 0, .int .i64 0, .int .i64 0, .int .i64 0, .bool false]) ?_ 1 _ rfl; refine bk (h := ?_); refine blk_put (cs := #[.int .i64 0, .string (⟨#[]⟩ : ByteArray), .int .i64 0, .int .i64 0, .int .i64 0, .int .i64 0, .int .i64 0, .int .i64 0, .bool false]) ?_ 0 _ rfl; refine bk (h := ?_); exact BK416.out) NB416_0.out (by simp)); replace HK := Aside0.mk (KeepBut.trans (by repeat (first | (with_reducible first | exact HK.out | apply KeepBut.set_ | apply keep_drewN | apply keep_drew | apply keep_alloc | refine keep_far ?_ GW412.out _ | refine keep_far ?_ GW416.out _) | exact HK.out)) hk (.inl rfl)); replace HB := Aside0.mk (hb); replace HI0 := Aside0.mk (hi); (try clear hb); (try clear hb2); (try clear hk); (try clear hi)))
  (try simp only [Act.put, List.setIfInBounds_toArray, List.set_cons_zero, List.set_cons_succ])
  go_cut [] (fun wc => ∃ (kq : Nat) (x417000_3 : Int), Aside0 (spec_l27Draw.j0 kq s0_0 t418 t419 x417000_3 (⟨#[]⟩ : ByteArray) 0 0 0 0 0 0 false = some (r1, r2, r3, r4, r5, r6, r7, r8, r9, r10, r11)) ∧ Aside0 (kq ≤ k) ∧ Aside0 (wc.heap[gb412]? = some (.cells #[.int .i64 0, .string (⟨#[]⟩ : ByteArray), .int .i64 0, .int .i64 0, .int .i64 0, .int .i64 0, .int .i64 0, .int .i64 0, .bool false] 34 (0, 0))) ∧ Aside0 (wc.heap[gb416]? = some (.cells #[.int .i64 x417000_3, .string (⟨#[]⟩ : ByteArray), .int .i64 0, .int .i64 0, .int .i64 0, .int .i64 0, .int .i64 0, .int .i64 0, .bool false] 34 (0, 0))) ∧ Aside0 (IsS143 w0 wc g s0_0 t418 t419) ∧ Aside0 (KeepBut w wc g none) ∧ Aside0 (Below w0.heap.size w0 wc))
  case first =>
    have H := HC4.out
    clear HC4
    by_cases c12 : t417 = true
    · subst c12
      rw [if_pos rfl] at H
      have H' := Aside0.mk H
      clear H
      have hnb13 := NB416_412.out
      have hnc13 := NB412_416.out
      have hnb14 := NB416_0.out
      have hnc14 := NB0_416.out
      obtain ⟨z15_0, z15_1, z15_2, z15_3, z15_4, z15_5, z15_6, z15_7, z15_8, y15_0, y15_1, y15_2, y15_3, y15_4, y15_5, y15_6, y15_7, y15_8⟩ := bq9 BK416
      go_wp2
      go_meet
      case rel => exact ⟨_, (1), H', ⟨by first | omega | exact Nat.le_refl _⟩, ⟨by refine bk (h := ?_); refine blk_far ?_ NB412_416.out _; refine bk (h := ?_); exact BK412.out⟩, ⟨by refine bk (h := ?_); refine blk_put (cs := #[.int .i64 (wrap64 (1 + t413)), .string (⟨#[]⟩ : ByteArray), .int .i64 0, .int .i64 0, .int .i64 0, .int .i64 0, .int .i64 0, .int .i64 0, .bool false]) ?_ 0 _ rfl; refine bk (h := ?_); exact BK416.out⟩, ⟨by repeat (first | (with_reducible first | exact HI0.out | apply IsS143.alloc | apply IsS143.drewN | apply IsS143.drew | apply IsS143.set_1 | apply IsS143.set_2 | refine IsS143.far ?_ NB0_412.out _ | refine IsS143.far ?_ NB0_416.out _) | exact HI0.out)⟩, ⟨by repeat (first | (with_reducible first | exact HK.out | apply KeepBut.set_ | apply keep_drewN | apply keep_drew | apply keep_alloc | refine keep_far ?_ GW412.out _ | refine keep_far ?_ GW416.out _) | exact HK.out)⟩, ⟨by repeat (first | (with_reducible first | exact HB.out | apply below_alloc | apply pw_below_drewN | apply below_drew1 | refine below_set ?_ (IsS143.ge HI0.out) | refine below_set ?_ GE412.out | refine below_set ?_ GE416.out) | exact HB.out)⟩⟩
    · replace c12 := Bool.eq_false_iff.mpr c12
      subst c12
      rw [if_neg nf] at H
      have H' := Aside0.mk H
      clear H
      go_wp2
      go_meet
      case rel => exact ⟨_, (wrap64 (1 + t413)), H', ⟨by first | omega | exact Nat.le_refl _⟩, ⟨by refine bk (h := ?_); exact BK412.out⟩, ⟨by refine bk (h := ?_); exact BK416.out⟩, ⟨by repeat (first | (with_reducible first | exact HI0.out | apply IsS143.alloc | apply IsS143.drewN | apply IsS143.drew | apply IsS143.set_1 | apply IsS143.set_2 | refine IsS143.far ?_ NB0_412.out _ | refine IsS143.far ?_ NB0_416.out _) | exact HI0.out)⟩, ⟨by repeat (first | (with_reducible first | exact HK.out | apply KeepBut.set_ | apply keep_drewN | apply keep_drew | apply keep_alloc | refine keep_far ?_ GW412.out _ | refine keep_far ?_ GW416.out _) | exact HK.out)⟩, ⟨by repeat (first | (with_reducible first | exact HB.out | apply below_alloc | apply pw_below_drewN | apply below_drew1 | refine below_set ?_ (IsS143.ge HI0.out) | refine below_set ?_ GE412.out | refine below_set ?_ GE416.out) | exact HB.out)⟩⟩
  case rest =>
    clear HC4
    try clear c1
    try clear p2
    try clear p6
    try clear c7
    try clear c8
    try clear c9
    try clear c11
    try clear c12
    try clear c13
    try clear c14
    try clear z10_0 z10_1 z10_2 z10_3 z10_4 z10_5 z10_6 z10_7 z10_8 y10_0 y10_1 y10_2 y10_3 y10_4 y10_5 y10_6 y10_7 y10_8
    try clear z15_0 z15_1 z15_2 z15_3 z15_4 z15_5 z15_6 z15_7 z15_8 y15_0 y15_1 y15_2 y15_3 y15_4 y15_5 y15_6 y15_7 y15_8
    obtain ⟨kq, x417000_3, HA, HJ3, BK412, BK416, HI0, HK, HB⟩ := hcut
    cases kq with
    | zero => exact absurd HA.out (by simp [spec_l27Draw.j0])
    | succ kj3 =>
      have H := HA.out
      clear HA
      simp only [spec_l27Draw.j0] at H
      by_cases c16 : x417000_3 = 4
      · rw [if_pos c16] at H
        have c16b0 : (x417000_3 == 4) = true := beq_iff_eq.mpr c16
        have c16b1 : (x417000_3 != 4) = false := bne_eq_false_iff_eq.mpr c16
        clear c16
        replace H := Option.bind_eq_some_iff.mp H
        obtain ⟨⟨t420, t421, t422⟩, A170, H⟩ := H
        replace H : ((spec_l02DrawLine.f kj3 s0_0 t421 t422).bind fun bt423 => (some (x417000_3, t420, bt423.1, bt423.2.1, bt423.2.2.1, bt423.2.2.2.1, 0, 0, false, bt423.2.2.2.2.1, bt423.2.2.2.2.2))) = some (r1, r2, r3, r4, r5, r6, r7, r8, r9, r10, r11) := H
        have A17 := Aside0.mk A170
        clear A170
        replace H := Option.bind_eq_some_iff.mp H
        obtain ⟨⟨t423, t424, t425, t426, t427, t428⟩, A180, H⟩ := H
        replace H : (some (x417000_3, t420, t423, t424, t425, t426, 0, 0, false, t427, t428)) = some (r1, r2, r3, r4, r5, r6, r7, r8, r9, r10, r11) := H
        have A18 := Aside0.mk A180
        clear A180
        simp only [Option.some.injEq, Prod.mk.injEq] at H
        obtain ⟨rfl, rfl, rfl, rfl, rfl, rfl, rfl, rfl, rfl, rfl, rfl⟩ := H
        have hnb19 := NB416_412.out
        have hnc19 := NB412_416.out
        have hnb20 := NB416_0.out
        have hnc20 := NB0_416.out
        obtain ⟨z21_0, z21_1, z21_2, z21_3, z21_4, z21_5, z21_6, z21_7, z21_8, y21_0, y21_1, y21_2, y21_3, y21_4, y21_5, y21_6, y21_7, y21_8⟩ := bq9 BK416
        go_wp2_with (first | ((with_reducible refine gate_callee (f := 111) rfl ?_); refine gl (some 16) Tryd.func111 #[.pointer (some ⟨g, 0, none⟩)] ?_; (with_reducible refine (spec_l27Name.calls kj3 g s0_0 t418 t419 t420 t421 t422 w0 _ ?side1 ?side2 A17.out).mono ?_); (case side1 => repeat (first | (with_reducible first | exact HI0.out | apply IsS143.alloc | apply IsS143.drewN | apply IsS143.drew | apply IsS143.set_1 | apply IsS143.set_2 | refine IsS143.far ?_ NB0_412.out _ | refine IsS143.far ?_ NB0_416.out _) | exact HI0.out)); (case side2 => repeat (first | (with_reducible first | exact HB.out | apply below_alloc | apply pw_below_drewN | apply below_drew1 | refine below_set ?_ (IsS143.ge HI0.out) | refine below_set ?_ GE412.out | refine below_set ?_ GE416.out) | exact HB.out)); rintro e w22 ⟨rfl, hi, hb, hk⟩; refine ⟨_, rfl, ?_⟩; replace BK412 := Aside0.mk (KeepBut.blk hk (g' := gb412) (o := .cells #[.int .i64 0, .string (⟨#[]⟩ : ByteArray), .int .i64 0, .int .i64 0, .int .i64 0, .int .i64 0, .int .i64 0, .int .i64 0, .bool false] 34 (0, 0)) (by refine bk (h := ?_); exact BK412.out) NB412_0.out (by simp)); replace BK416 := Aside0.mk (KeepBut.blk hk (g' := gb416) (o := .cells #[.int .i64 x417000_3, .string (⟨#[]⟩ : ByteArray), .int .i64 0, .int .i64 0, .int .i64 0, .int .i64 0, .int .i64 0, .int .i64 0, .bool false] 34 (0, 0)) (by refine bk (h := ?_); exact BK416.out) NB416_0.out (by simp)); replace HK := Aside0.mk (KeepBut.trans (by repeat (first | (with_reducible first | exact HK.out | apply KeepBut.set_ | apply keep_drewN | apply keep_drew | apply keep_alloc | refine keep_far ?_ GW412.out _ | refine keep_far ?_ GW416.out _) | exact HK.out)) hk (.inl rfl)); replace HB := Aside0.mk (hb); replace HI0 := Aside0.mk (hi); (try clear hb); (try clear hb2); (try clear hk); (try clear hi); obtain ⟨z23_0, z23_1, z23_2, z23_3, z23_4, z23_5, z23_6, z23_7, z23_8, y23_0, y23_1, y23_2, y23_3, y23_4, y23_5, y23_6, y23_7, y23_8⟩ := bq9 BK416) | ((with_reducible refine gate_callee (f := 112) rfl ?_); refine gl (some 19) Tryd.func112 #[.pointer (some ⟨g, 0, none⟩)] ?_; (with_reducible refine (spec_l02DrawLine.calls kj3 g s0_0 t421 t422 t423 t424 t425 t426 t427 t428 w0 _ ?side1 ?side2 A18.out).mono ?_); (case side1 => repeat (first | (with_reducible first | exact HI0.out | apply IsS143.alloc | apply IsS143.drewN | apply IsS143.drew | apply IsS143.set_1 | apply IsS143.set_2 | refine IsS143.far ?_ NB0_412.out _ | refine IsS143.far ?_ NB0_416.out _) | exact HI0.out)); (case side2 => repeat (first | (with_reducible first | exact HB.out | apply below_alloc | apply pw_below_drewN | apply below_drew1 | refine below_set ?_ (IsS143.ge HI0.out) | refine below_set ?_ GE412.out | refine below_set ?_ GE416.out) | exact HB.out)); rintro e w24 ⟨rfl, hi, hb, hk⟩; refine ⟨_, rfl, ?_⟩; replace BK412 := Aside0.mk (KeepBut.blk hk (g' := gb412) (o := .cells #[.int .i64 0, .string (⟨#[]⟩ : ByteArray), .int .i64 0, .int .i64 0, .int .i64 0, .int .i64 0, .int .i64 0, .int .i64 0, .bool false] 34 (0, 0)) (by refine bk (h := ?_); refine blk_far ?_ NB412_416.out _; refine bk (h := ?_); exact BK412.out) NB412_0.out (by simp)); replace BK416 := Aside0.mk (KeepBut.blk hk (g' := gb416) (o := .cells #[.int .i64 x417000_3, .string t420, .int .i64 0, .int .i64 0, .int .i64 0, .int .i64 0, .int .i64 0, .int .i64 0, .bool false] 34 (0, 0)) (by refine bk (h := ?_); refine blk_put (cs := #[.int .i64 x417000_3, .string (⟨#[]⟩ : ByteArray), .int .i64 0, .int .i64 0, .int .i64 0, .int .i64 0, .int .i64 0, .int .i64 0, .bool false]) ?_ 1 _ rfl; refine bk (h := ?_); exact BK416.out) NB416_0.out (by simp)); replace HK := Aside0.mk (KeepBut.trans (by repeat (first | (with_reducible first | exact HK.out | apply KeepBut.set_ | apply keep_drewN | apply keep_drew | apply keep_alloc | refine keep_far ?_ GW412.out _ | refine keep_far ?_ GW416.out _) | exact HK.out)) hk (.inl rfl)); replace HB := Aside0.mk (hb); replace HI0 := Aside0.mk (hi); (try clear hb); (try clear hb2); (try clear hk); (try clear hi); obtain ⟨z25_0, z25_1, z25_2, z25_3, z25_4, z25_5, z25_6, z25_7, z25_8, y25_0, y25_1, y25_2, y25_3, y25_4, y25_5, y25_6, y25_7, y25_8⟩ := bq9 BK416; have hnb26 := NB412_0.out; have hnc26 := NB0_412.out; obtain ⟨z27_0, z27_1, z27_2, z27_3, z27_4, z27_5, z27_6, z27_7, z27_8, y27_0, y27_1, y27_2, y27_3, y27_4, y27_5, y27_6, y27_7, y27_8⟩ := bq9 BK412))
        refine bodyPost_ret (results_cell_row rfl _ _ gb412 34 #[.int .i64 x417000_3, .string t420, .int .i64 t423, .int .i64 t424, .int .i64 t425, .int .i64 t426, .int .i64 0, .int .i64 0, .bool false] (0, 0) _ rfl (by refine bk (h := ?_); refine blk_put (cs := #[.int .i64 x417000_3, .string t420, .int .i64 t423, .int .i64 t424, .int .i64 t425, .int .i64 t426, .int .i64 0, .int .i64 0, .bool false]) ?_ 8 _ rfl; refine bk (h := ?_); refine blk_put (cs := #[.int .i64 x417000_3, .string t420, .int .i64 t423, .int .i64 t424, .int .i64 t425, .int .i64 t426, .int .i64 0, .int .i64 0, .bool false]) ?_ 7 _ rfl; refine bk (h := ?_); refine blk_put (cs := #[.int .i64 x417000_3, .string t420, .int .i64 t423, .int .i64 t424, .int .i64 t425, .int .i64 t426, .int .i64 0, .int .i64 0, .bool false]) ?_ 6 _ rfl; refine bk (h := ?_); refine blk_put (cs := #[.int .i64 x417000_3, .string t420, .int .i64 t423, .int .i64 t424, .int .i64 t425, .int .i64 0, .int .i64 0, .int .i64 0, .bool false]) ?_ 5 _ rfl; refine bk (h := ?_); refine blk_put (cs := #[.int .i64 x417000_3, .string t420, .int .i64 t423, .int .i64 t424, .int .i64 0, .int .i64 0, .int .i64 0, .int .i64 0, .bool false]) ?_ 4 _ rfl; refine bk (h := ?_); refine blk_put (cs := #[.int .i64 x417000_3, .string t420, .int .i64 t423, .int .i64 0, .int .i64 0, .int .i64 0, .int .i64 0, .int .i64 0, .bool false]) ?_ 3 _ rfl; refine bk (h := ?_); refine blk_put (cs := #[.int .i64 x417000_3, .string t420, .int .i64 0, .int .i64 0, .int .i64 0, .int .i64 0, .int .i64 0, .int .i64 0, .bool false]) ?_ 2 _ rfl; refine bk (h := ?_); refine blk_put (cs := #[.int .i64 x417000_3, .string (⟨#[]⟩ : ByteArray), .int .i64 0, .int .i64 0, .int .i64 0, .int .i64 0, .int .i64 0, .int .i64 0, .bool false]) ?_ 1 _ rfl; refine bk (h := ?_); refine blk_put (cs := #[.int .i64 0, .string (⟨#[]⟩ : ByteArray), .int .i64 0, .int .i64 0, .int .i64 0, .int .i64 0, .int .i64 0, .int .i64 0, .bool false]) ?_ 0 _ rfl; refine bk (h := ?_); refine blk_far ?_ NB412_416.out _; refine bk (h := ?_); refine blk_far ?_ NB412_416.out _; refine bk (h := ?_); refine blk_far ?_ NB412_416.out _; refine bk (h := ?_); refine blk_far ?_ NB412_416.out _; refine bk (h := ?_); exact BK412.out) Tryd.underlying34 rfl (by kernel_rfl)) rfl ?_
        exact ⟨er, by repeat (first | (with_reducible first | exact HI0.out | apply IsS143.alloc | apply IsS143.drewN | apply IsS143.drew | apply IsS143.set_1 | apply IsS143.set_2 | refine IsS143.far ?_ NB0_412.out _ | refine IsS143.far ?_ NB0_416.out _) | exact HI0.out), by repeat (first | (with_reducible first | exact HB.out | apply below_alloc | apply pw_below_drewN | apply below_drew1 | refine below_set ?_ (IsS143.ge HI0.out) | refine below_set ?_ GE412.out | refine below_set ?_ GE416.out) | exact HB.out), by repeat (first | (with_reducible first | exact HK.out | apply KeepBut.set_ | apply keep_drewN | apply keep_drew | apply keep_alloc | refine keep_far ?_ GW412.out _ | refine keep_far ?_ GW416.out _) | exact HK.out)⟩
      · rw [if_neg c16] at H
        have c16b0 : (x417000_3 == 4) = false := beq_eq_false_iff_ne.mpr c16
        have c16b1 : (x417000_3 != 4) = true := bne_iff_ne.mpr c16
        have HC28 := Aside0.mk H
        clear H
        have hnb29 := NB416_412.out
        have hnc29 := NB412_416.out
        have hnb30 := NB416_0.out
        have hnc30 := NB0_416.out
        obtain ⟨z31_0, z31_1, z31_2, z31_3, z31_4, z31_5, z31_6, z31_7, z31_8, y31_0, y31_1, y31_2, y31_3, y31_4, y31_5, y31_6, y31_7, y31_8⟩ := bq9 BK416
        go_upto_if 21 with (fail)
        go_cut [21] (fun v21 wc => ∃ (kq : Nat) (x21_27 : Bool), v21 = .bool x21_27 ∧ Aside0 (spec_l27Draw.j1 kq x21_27 s0_0 t418 t419 x417000_3 (⟨#[]⟩ : ByteArray) 0 0 0 0 0 0 false = some (r1, r2, r3, r4, r5, r6, r7, r8, r9, r10, r11)) ∧ Aside0 (kq ≤ kj3) ∧ Aside0 (wc.heap[gb412]? = some (.cells #[.int .i64 0, .string (⟨#[]⟩ : ByteArray), .int .i64 0, .int .i64 0, .int .i64 0, .int .i64 0, .int .i64 0, .int .i64 0, .bool false] 34 (0, 0))) ∧ Aside0 (wc.heap[gb416]? = some (.cells #[.int .i64 x417000_3, .string (⟨#[]⟩ : ByteArray), .int .i64 0, .int .i64 0, .int .i64 0, .int .i64 0, .int .i64 0, .int .i64 0, .bool false] 34 (0, 0))) ∧ Aside0 (IsS143 w0 wc g s0_0 t418 t419) ∧ Aside0 (KeepBut w wc g none) ∧ Aside0 (Below w0.heap.size w0 wc))
        case first =>
          have H := HC28.out
          clear HC28
          by_cases c32 : x417000_3 = 1
          · rw [if_pos c32] at H
            have c32b0 : (x417000_3 == 1) = true := beq_iff_eq.mpr c32
            have c32b1 : (x417000_3 != 1) = false := bne_eq_false_iff_eq.mpr c32
            clear c32
            (first | rw [c32b0] | (simp only [i64_w, i32_w]; rw [c32b0]) | skip)
            have H' := Aside0.mk H
            clear H
            go_wp2
            go_meet
            case rel => exact ⟨_, ((x417000_3 == 1)), (by first | rfl | (simp; done) | (simp [*]; done)), H', ⟨by have := HJ3.out; first | omega | exact Nat.le_refl _⟩, ⟨by refine bk (h := ?_); exact BK412.out⟩, ⟨by refine bk (h := ?_); exact BK416.out⟩, ⟨by repeat (first | (with_reducible first | exact HI0.out | apply IsS143.alloc | apply IsS143.drewN | apply IsS143.drew | apply IsS143.set_1 | apply IsS143.set_2 | refine IsS143.far ?_ NB0_412.out _ | refine IsS143.far ?_ NB0_416.out _) | exact HI0.out)⟩, ⟨by repeat (first | (with_reducible first | exact HK.out | apply KeepBut.set_ | apply keep_drewN | apply keep_drew | apply keep_alloc | refine keep_far ?_ GW412.out _ | refine keep_far ?_ GW416.out _) | exact HK.out)⟩, ⟨by repeat (first | (with_reducible first | exact HB.out | apply below_alloc | apply pw_below_drewN | apply below_drew1 | refine below_set ?_ (IsS143.ge HI0.out) | refine below_set ?_ GE412.out | refine below_set ?_ GE416.out) | exact HB.out)⟩⟩
          · rw [if_neg c32] at H
            have c32b0 : (x417000_3 == 1) = false := beq_eq_false_iff_ne.mpr c32
            have c32b1 : (x417000_3 != 1) = true := bne_iff_ne.mpr c32
            (first | rw [c32b0] | (simp only [i64_w, i32_w]; rw [c32b0]) | skip)
            have H' := Aside0.mk H
            clear H
            go_wp2
            go_meet
            case rel => exact ⟨_, ((x417000_3 == 2)), (by first | rfl | (simp; done) | (simp [*]; done)), H', ⟨by have := HJ3.out; first | omega | exact Nat.le_refl _⟩, ⟨by refine bk (h := ?_); exact BK412.out⟩, ⟨by refine bk (h := ?_); exact BK416.out⟩, ⟨by repeat (first | (with_reducible first | exact HI0.out | apply IsS143.alloc | apply IsS143.drewN | apply IsS143.drew | apply IsS143.set_1 | apply IsS143.set_2 | refine IsS143.far ?_ NB0_412.out _ | refine IsS143.far ?_ NB0_416.out _) | exact HI0.out)⟩, ⟨by repeat (first | (with_reducible first | exact HK.out | apply KeepBut.set_ | apply keep_drewN | apply keep_drew | apply keep_alloc | refine keep_far ?_ GW412.out _ | refine keep_far ?_ GW416.out _) | exact HK.out)⟩, ⟨by repeat (first | (with_reducible first | exact HB.out | apply below_alloc | apply pw_below_drewN | apply below_drew1 | refine below_set ?_ (IsS143.ge HI0.out) | refine below_set ?_ GE412.out | refine below_set ?_ GE416.out) | exact HB.out)⟩⟩
        case rest =>
          clear HC28
          try clear c1
          try clear c2
          try clear p2
          try clear c3
          try clear p6
          try clear c7
          try clear c8
          try clear c9
          try clear c11
          try clear c12
          try clear c13
          try clear c14
          try clear c16
          try clear c16b0
          try clear c16b1
          try clear c19
          try clear c20
          try clear c26
          try clear c29
          try clear c30
          try clear c32
          try clear c32b0
          try clear c32b1
          try clear z10_0 z10_1 z10_2 z10_3 z10_4 z10_5 z10_6 z10_7 z10_8 y10_0 y10_1 y10_2 y10_3 y10_4 y10_5 y10_6 y10_7 y10_8
          try clear z15_0 z15_1 z15_2 z15_3 z15_4 z15_5 z15_6 z15_7 z15_8 y15_0 y15_1 y15_2 y15_3 y15_4 y15_5 y15_6 y15_7 y15_8
          try clear z21_0 z21_1 z21_2 z21_3 z21_4 z21_5 z21_6 z21_7 z21_8 y21_0 y21_1 y21_2 y21_3 y21_4 y21_5 y21_6 y21_7 y21_8
          try clear z23_0 z23_1 z23_2 z23_3 z23_4 z23_5 z23_6 z23_7 z23_8 y23_0 y23_1 y23_2 y23_3 y23_4 y23_5 y23_6 y23_7 y23_8
          try clear z25_0 z25_1 z25_2 z25_3 z25_4 z25_5 z25_6 z25_7 z25_8 y25_0 y25_1 y25_2 y25_3 y25_4 y25_5 y25_6 y25_7 y25_8
          try clear z27_0 z27_1 z27_2 z27_3 z27_4 z27_5 z27_6 z27_7 z27_8 y27_0 y27_1 y27_2 y27_3 y27_4 y27_5 y27_6 y27_7 y27_8
          try clear z31_0 z31_1 z31_2 z31_3 z31_4 z31_5 z31_6 z31_7 z31_8 y31_0 y31_1 y31_2 y31_3 y31_4 y31_5 y31_6 y31_7 y31_8
          try clear p2
          try clear p6
          obtain ⟨kq, x21_27, rfl, HA, HJ27, BK412, BK416, HI0, HK, HB⟩ := hcut
          cases kq with
          | zero => exact absurd HA.out (by simp [spec_l27Draw.j1])
          | succ kj27 =>
            have H := HA.out
            clear HA
            simp only [spec_l27Draw.j1] at H
            by_cases c33 : x21_27 = true
            · subst c33
              rw [if_pos rfl] at H
              replace H := Option.bind_eq_some_iff.mp H
              obtain ⟨⟨t429, t430, t431⟩, A340, H⟩ := H
              replace H : ((spec_l00Src_one.f kj27 s0_0 t430 t431 2).bind fun bt432 => (if x417000_3 = 2 then ((spec_l00Src_pick.f kj27 s0_0 bt432.2.1 bt432.2.2 24).bind fun bt435 => (spec_l27Draw.j2 kj27 s0_0 bt435.2.1 bt435.2.2 x417000_3 (⟨#[]⟩ : ByteArray) 0 0 0 0 (wrap64 (1 - (wrap64 (2 * t429)))) bt435.1 bt432.1)) else (spec_l27Draw.j2 kj27 s0_0 bt432.2.1 bt432.2.2 x417000_3 (⟨#[]⟩ : ByteArray) 0 0 0 0 (wrap64 (1 - (wrap64 (2 * t429)))) 0 bt432.1))) = some (r1, r2, r3, r4, r5, r6, r7, r8, r9, r10, r11) := H
              have A34 := Aside0.mk A340
              clear A340
              replace H := Option.bind_eq_some_iff.mp H
              obtain ⟨⟨t432, t433, t434⟩, A350, H⟩ := H
              replace H : (if x417000_3 = 2 then ((spec_l00Src_pick.f kj27 s0_0 t433 t434 24).bind fun bt435 => (spec_l27Draw.j2 kj27 s0_0 bt435.2.1 bt435.2.2 x417000_3 (⟨#[]⟩ : ByteArray) 0 0 0 0 (wrap64 (1 - (wrap64 (2 * t429)))) bt435.1 t432)) else (spec_l27Draw.j2 kj27 s0_0 t433 t434 x417000_3 (⟨#[]⟩ : ByteArray) 0 0 0 0 (wrap64 (1 - (wrap64 (2 * t429)))) 0 t432)) = some (r1, r2, r3, r4, r5, r6, r7, r8, r9, r10, r11) := H
              have A35 := Aside0.mk A350
              clear A350
              have HC36 := Aside0.mk H
              clear H
              go_upto_if 34 with (first | ((with_reducible refine gate_callee (f := 71) rfl ?_); refine gl (some 25) Tryd.func71 #[.pointer (some ⟨g, 0, none⟩), .int .i64 2] ?_; (with_reducible refine (spec_l00Src_pick.calls kj27 g s0_0 t418 t419 2 t429 t430 t431 w0 _ ?side1 ?side2 A34.out).mono ?_); (case side1 => repeat (first | (with_reducible first | exact HI0.out | apply IsS143.alloc | apply IsS143.drewN | apply IsS143.drew | apply IsS143.set_1 | apply IsS143.set_2 | refine IsS143.far ?_ NB0_412.out _ | refine IsS143.far ?_ NB0_416.out _) | exact HI0.out)); (case side2 => repeat (first | (with_reducible first | exact HB.out | apply below_alloc | apply pw_below_drewN | apply below_drew1 | refine below_set ?_ (IsS143.ge HI0.out) | refine below_set ?_ GE412.out | refine below_set ?_ GE416.out) | exact HB.out)); rintro e w37 ⟨rfl, hi, hb, hk⟩; refine ⟨_, rfl, ?_⟩; replace BK412 := Aside0.mk (KeepBut.blk hk (g' := gb412) (o := .cells #[.int .i64 0, .string (⟨#[]⟩ : ByteArray), .int .i64 0, .int .i64 0, .int .i64 0, .int .i64 0, .int .i64 0, .int .i64 0, .bool false] 34 (0, 0)) (by refine bk (h := ?_); exact BK412.out) NB412_0.out (by simp)); replace BK416 := Aside0.mk (KeepBut.blk hk (g' := gb416) (o := .cells #[.int .i64 x417000_3, .string (⟨#[]⟩ : ByteArray), .int .i64 0, .int .i64 0, .int .i64 0, .int .i64 0, .int .i64 0, .int .i64 0, .bool false] 34 (0, 0)) (by refine bk (h := ?_); exact BK416.out) NB416_0.out (by simp)); replace HK := Aside0.mk (KeepBut.trans (by repeat (first | (with_reducible first | exact HK.out | apply KeepBut.set_ | apply keep_drewN | apply keep_drew | apply keep_alloc | refine keep_far ?_ GW412.out _ | refine keep_far ?_ GW416.out _) | exact HK.out)) hk (.inl rfl)); replace HB := Aside0.mk (hb); replace HI0 := Aside0.mk (hi); (try clear hb); (try clear hb2); (try clear hk); (try clear hi); have hnb38 := NB416_412.out; have hnc38 := NB412_416.out; have hnb39 := NB416_0.out; have hnc39 := NB0_416.out; obtain ⟨z40_0, z40_1, z40_2, z40_3, z40_4, z40_5, z40_6, z40_7, z40_8, y40_0, y40_1, y40_2, y40_3, y40_4, y40_5, y40_6, y40_7, y40_8⟩ := bq9 BK416) | ((with_reducible refine gate_callee (f := 110) rfl ?_); refine gl (some 30) Tryd.func110 #[.pointer (some ⟨g, 0, none⟩), .int .i64 2] ?_; (with_reducible refine (spec_l00Src_one.calls kj27 g s0_0 t430 t431 2 t432 t433 t434 w0 _ ?side1 ?side2 A35.out).mono ?_); (case side1 => repeat (first | (with_reducible first | exact HI0.out | apply IsS143.alloc | apply IsS143.drewN | apply IsS143.drew | apply IsS143.set_1 | apply IsS143.set_2 | refine IsS143.far ?_ NB0_412.out _ | refine IsS143.far ?_ NB0_416.out _) | exact HI0.out)); (case side2 => repeat (first | (with_reducible first | exact HB.out | apply below_alloc | apply pw_below_drewN | apply below_drew1 | refine below_set ?_ (IsS143.ge HI0.out) | refine below_set ?_ GE412.out | refine below_set ?_ GE416.out) | exact HB.out)); rintro e w41 ⟨rfl, hi, hb, hk⟩; refine ⟨_, rfl, ?_⟩; replace BK412 := Aside0.mk (KeepBut.blk hk (g' := gb412) (o := .cells #[.int .i64 0, .string (⟨#[]⟩ : ByteArray), .int .i64 0, .int .i64 0, .int .i64 0, .int .i64 0, .int .i64 0, .int .i64 0, .bool false] 34 (0, 0)) (by refine bk (h := ?_); refine blk_far ?_ NB412_416.out _; refine bk (h := ?_); exact BK412.out) NB412_0.out (by simp)); replace BK416 := Aside0.mk (KeepBut.blk hk (g' := gb416) (o := .cells #[.int .i64 x417000_3, .string (⟨#[]⟩ : ByteArray), .int .i64 0, .int .i64 0, .int .i64 0, .int .i64 0, .int .i64 (wrap64 (1 - (wrap64 (2 * t429)))), .int .i64 0, .bool false] 34 (0, 0)) (by refine bk (h := ?_); refine blk_put (cs := #[.int .i64 x417000_3, .string (⟨#[]⟩ : ByteArray), .int .i64 0, .int .i64 0, .int .i64 0, .int .i64 0, .int .i64 0, .int .i64 0, .bool false]) ?_ 6 _ rfl; refine bk (h := ?_); exact BK416.out) NB416_0.out (by simp)); replace HK := Aside0.mk (KeepBut.trans (by repeat (first | (with_reducible first | exact HK.out | apply KeepBut.set_ | apply keep_drewN | apply keep_drew | apply keep_alloc | refine keep_far ?_ GW412.out _ | refine keep_far ?_ GW416.out _) | exact HK.out)) hk (.inl rfl)); replace HB := Aside0.mk (hb); replace HI0 := Aside0.mk (hi); (try clear hb); (try clear hb2); (try clear hk); (try clear hi); obtain ⟨z42_0, z42_1, z42_2, z42_3, z42_4, z42_5, z42_6, z42_7, z42_8, y42_0, y42_1, y42_2, y42_3, y42_4, y42_5, y42_6, y42_7, y42_8⟩ := bq9 BK416))
              (try simp only [Act.put, List.setIfInBounds_toArray, List.set_cons_zero, List.set_cons_succ])
              go_cut [] (fun wc => ∃ (kq : Nat) (x1001_35 : Int) (x1002_35 : Int) (x417007_35 : Int), Aside0 (spec_l27Draw.j2 kq s0_0 x1001_35 x1002_35 x417000_3 (⟨#[]⟩ : ByteArray) 0 0 0 0 (wrap64 (1 - (wrap64 (2 * t429)))) x417007_35 t432 = some (r1, r2, r3, r4, r5, r6, r7, r8, r9, r10, r11)) ∧ Aside0 (kq ≤ kj27) ∧ Aside0 (wc.heap[gb412]? = some (.cells #[.int .i64 0, .string (⟨#[]⟩ : ByteArray), .int .i64 0, .int .i64 0, .int .i64 0, .int .i64 0, .int .i64 0, .int .i64 0, .bool false] 34 (0, 0))) ∧ Aside0 (wc.heap[gb416]? = some (.cells #[.int .i64 x417000_3, .string (⟨#[]⟩ : ByteArray), .int .i64 0, .int .i64 0, .int .i64 0, .int .i64 0, .int .i64 (wrap64 (1 - (wrap64 (2 * t429)))), .int .i64 x417007_35, .bool t432] 34 (0, 0))) ∧ Aside0 (IsS143 w0 wc g s0_0 x1001_35 x1002_35) ∧ Aside0 (KeepBut w wc g none) ∧ Aside0 (Below w0.heap.size w0 wc))
              case first =>
                have H := HC36.out
                clear HC36
                by_cases c43 : x417000_3 = 2
                · rw [if_pos c43] at H
                  have c43b0 : (x417000_3 == 2) = true := beq_iff_eq.mpr c43
                  have c43b1 : (x417000_3 != 2) = false := bne_eq_false_iff_eq.mpr c43
                  clear c43
                  (first | rw [c43b0] | (simp only [i64_w, i32_w]; rw [c43b0]) | skip)
                  replace H := Option.bind_eq_some_iff.mp H
                  obtain ⟨⟨t435, t436, t437⟩, A440, H⟩ := H
                  replace H : (spec_l27Draw.j2 kj27 s0_0 t436 t437 x417000_3 (⟨#[]⟩ : ByteArray) 0 0 0 0 (wrap64 (1 - (wrap64 (2 * t429)))) t435 t432) = some (r1, r2, r3, r4, r5, r6, r7, r8, r9, r10, r11) := H
                  have A44 := Aside0.mk A440
                  clear A440
                  have H' := Aside0.mk H
                  clear H
                  go_wp2_with (first | ((with_reducible refine gate_callee (f := 71) rfl ?_); refine gl (some 36) Tryd.func71 #[.pointer (some ⟨g, 0, none⟩), .int .i64 24] ?_; (with_reducible refine (spec_l00Src_pick.calls kj27 g s0_0 t433 t434 24 t435 t436 t437 w0 _ ?side1 ?side2 A44.out).mono ?_); (case side1 => repeat (first | (with_reducible first | exact HI0.out | apply IsS143.alloc | apply IsS143.drewN | apply IsS143.drew | apply IsS143.set_1 | apply IsS143.set_2 | refine IsS143.far ?_ NB0_412.out _ | refine IsS143.far ?_ NB0_416.out _) | exact HI0.out)); (case side2 => repeat (first | (with_reducible first | exact HB.out | apply below_alloc | apply pw_below_drewN | apply below_drew1 | refine below_set ?_ (IsS143.ge HI0.out) | refine below_set ?_ GE412.out | refine below_set ?_ GE416.out) | exact HB.out)); rintro e w45 ⟨rfl, hi, hb, hk⟩; refine ⟨_, rfl, ?_⟩; replace BK412 := Aside0.mk (KeepBut.blk hk (g' := gb412) (o := .cells #[.int .i64 0, .string (⟨#[]⟩ : ByteArray), .int .i64 0, .int .i64 0, .int .i64 0, .int .i64 0, .int .i64 0, .int .i64 0, .bool false] 34 (0, 0)) (by refine bk (h := ?_); refine blk_far ?_ NB412_416.out _; refine bk (h := ?_); exact BK412.out) NB412_0.out (by simp)); replace BK416 := Aside0.mk (KeepBut.blk hk (g' := gb416) (o := .cells #[.int .i64 x417000_3, .string (⟨#[]⟩ : ByteArray), .int .i64 0, .int .i64 0, .int .i64 0, .int .i64 0, .int .i64 (wrap64 (1 - (wrap64 (2 * t429)))), .int .i64 0, .bool t432] 34 (0, 0)) (by refine bk (h := ?_); refine blk_put (cs := #[.int .i64 x417000_3, .string (⟨#[]⟩ : ByteArray), .int .i64 0, .int .i64 0, .int .i64 0, .int .i64 0, .int .i64 (wrap64 (1 - (wrap64 (2 * t429)))), .int .i64 0, .bool false]) ?_ 8 _ rfl; refine bk (h := ?_); exact BK416.out) NB416_0.out (by simp)); replace HK := Aside0.mk (KeepBut.trans (by repeat (first | (with_reducible first | exact HK.out | apply KeepBut.set_ | apply keep_drewN | apply keep_drew | apply keep_alloc | refine keep_far ?_ GW412.out _ | refine keep_far ?_ GW416.out _) | exact HK.out)) hk (.inl rfl)); replace HB := Aside0.mk (hb); replace HI0 := Aside0.mk (hi); (try clear hb); (try clear hb2); (try clear hk); (try clear hi); have hnb46 := NB416_412.out; have hnc46 := NB412_416.out; have hnb47 := NB416_0.out; have hnc47 := NB0_416.out; obtain ⟨z48_0, z48_1, z48_2, z48_3, z48_4, z48_5, z48_6, z48_7, z48_8, y48_0, y48_1, y48_2, y48_3, y48_4, y48_5, y48_6, y48_7, y48_8⟩ := bq9 BK416))
                  go_meet
                  case rel => exact ⟨_, (t436), (t437), (t435), H', ⟨by have := HJ3.out; have := HJ27.out; first | omega | exact Nat.le_refl _⟩, ⟨by refine bk (h := ?_); refine blk_far ?_ NB412_416.out _; refine bk (h := ?_); exact BK412.out⟩, ⟨by refine bk (h := ?_); refine blk_put (cs := #[.int .i64 x417000_3, .string (⟨#[]⟩ : ByteArray), .int .i64 0, .int .i64 0, .int .i64 0, .int .i64 0, .int .i64 (wrap64 (1 - (wrap64 (2 * t429)))), .int .i64 0, .bool t432]) ?_ 7 _ rfl; refine bk (h := ?_); exact BK416.out⟩, ⟨by repeat (first | (with_reducible first | exact HI0.out | apply IsS143.alloc | apply IsS143.drewN | apply IsS143.drew | apply IsS143.set_1 | apply IsS143.set_2 | refine IsS143.far ?_ NB0_412.out _ | refine IsS143.far ?_ NB0_416.out _) | exact HI0.out)⟩, ⟨by repeat (first | (with_reducible first | exact HK.out | apply KeepBut.set_ | apply keep_drewN | apply keep_drew | apply keep_alloc | refine keep_far ?_ GW412.out _ | refine keep_far ?_ GW416.out _) | exact HK.out)⟩, ⟨by repeat (first | (with_reducible first | exact HB.out | apply below_alloc | apply pw_below_drewN | apply below_drew1 | refine below_set ?_ (IsS143.ge HI0.out) | refine below_set ?_ GE412.out | refine below_set ?_ GE416.out) | exact HB.out)⟩⟩
                · rw [if_neg c43] at H
                  have c43b0 : (x417000_3 == 2) = false := beq_eq_false_iff_ne.mpr c43
                  have c43b1 : (x417000_3 != 2) = true := bne_iff_ne.mpr c43
                  (first | rw [c43b0] | (simp only [i64_w, i32_w]; rw [c43b0]) | skip)
                  have H' := Aside0.mk H
                  clear H
                  go_wp2
                  go_meet
                  case rel => exact ⟨_, (t433), (t434), (0), H', ⟨by have := HJ3.out; have := HJ27.out; first | omega | exact Nat.le_refl _⟩, ⟨by refine bk (h := ?_); refine blk_far ?_ NB412_416.out _; refine bk (h := ?_); exact BK412.out⟩, ⟨by refine bk (h := ?_); refine blk_put (cs := #[.int .i64 x417000_3, .string (⟨#[]⟩ : ByteArray), .int .i64 0, .int .i64 0, .int .i64 0, .int .i64 0, .int .i64 (wrap64 (1 - (wrap64 (2 * t429)))), .int .i64 0, .bool false]) ?_ 8 _ rfl; refine bk (h := ?_); exact BK416.out⟩, ⟨by repeat (first | (with_reducible first | exact HI0.out | apply IsS143.alloc | apply IsS143.drewN | apply IsS143.drew | apply IsS143.set_1 | apply IsS143.set_2 | refine IsS143.far ?_ NB0_412.out _ | refine IsS143.far ?_ NB0_416.out _) | exact HI0.out)⟩, ⟨by repeat (first | (with_reducible first | exact HK.out | apply KeepBut.set_ | apply keep_drewN | apply keep_drew | apply keep_alloc | refine keep_far ?_ GW412.out _ | refine keep_far ?_ GW416.out _) | exact HK.out)⟩, ⟨by repeat (first | (with_reducible first | exact HB.out | apply below_alloc | apply pw_below_drewN | apply below_drew1 | refine below_set ?_ (IsS143.ge HI0.out) | refine below_set ?_ GE412.out | refine below_set ?_ GE416.out) | exact HB.out)⟩⟩
              case rest =>
                clear HC36
                try clear c1
                try clear c2
                try clear p2
                try clear c3
                try clear c4
                try clear p6
                try clear c7
                try clear c8
                try clear c9
                try clear c11
                try clear c12
                try clear c13
                try clear c14
                try clear c16
                try clear c16b0
                try clear c16b1
                try clear c19
                try clear c20
                try clear c26
                try clear c29
                try clear c30
                try clear c32
                try clear c32b0
                try clear c32b1
                try clear c33
                try clear c38
                try clear c39
                try clear c43
                try clear c43b0
                try clear c43b1
                try clear c46
                try clear c47
                try clear z10_0 z10_1 z10_2 z10_3 z10_4 z10_5 z10_6 z10_7 z10_8 y10_0 y10_1 y10_2 y10_3 y10_4 y10_5 y10_6 y10_7 y10_8
                try clear z15_0 z15_1 z15_2 z15_3 z15_4 z15_5 z15_6 z15_7 z15_8 y15_0 y15_1 y15_2 y15_3 y15_4 y15_5 y15_6 y15_7 y15_8
                try clear z21_0 z21_1 z21_2 z21_3 z21_4 z21_5 z21_6 z21_7 z21_8 y21_0 y21_1 y21_2 y21_3 y21_4 y21_5 y21_6 y21_7 y21_8
                try clear z23_0 z23_1 z23_2 z23_3 z23_4 z23_5 z23_6 z23_7 z23_8 y23_0 y23_1 y23_2 y23_3 y23_4 y23_5 y23_6 y23_7 y23_8
                try clear z25_0 z25_1 z25_2 z25_3 z25_4 z25_5 z25_6 z25_7 z25_8 y25_0 y25_1 y25_2 y25_3 y25_4 y25_5 y25_6 y25_7 y25_8
                try clear z27_0 z27_1 z27_2 z27_3 z27_4 z27_5 z27_6 z27_7 z27_8 y27_0 y27_1 y27_2 y27_3 y27_4 y27_5 y27_6 y27_7 y27_8
                try clear z31_0 z31_1 z31_2 z31_3 z31_4 z31_5 z31_6 z31_7 z31_8 y31_0 y31_1 y31_2 y31_3 y31_4 y31_5 y31_6 y31_7 y31_8
                try clear z40_0 z40_1 z40_2 z40_3 z40_4 z40_5 z40_6 z40_7 z40_8 y40_0 y40_1 y40_2 y40_3 y40_4 y40_5 y40_6 y40_7 y40_8
                try clear z42_0 z42_1 z42_2 z42_3 z42_4 z42_5 z42_6 z42_7 z42_8 y42_0 y42_1 y42_2 y42_3 y42_4 y42_5 y42_6 y42_7 y42_8
                try clear z48_0 z48_1 z48_2 z48_3 z48_4 z48_5 z48_6 z48_7 z48_8 y48_0 y48_1 y48_2 y48_3 y48_4 y48_5 y48_6 y48_7 y48_8
                try clear p2
                try clear p6
                obtain ⟨kq, x1001_35, x1002_35, x417007_35, HA, HJ35, BK412, BK416, HI0, HK, HB⟩ := hcut
                cases kq with
                | zero => exact absurd HA.out (by simp [spec_l27Draw.j2])
                | succ kj35 =>
                  have H := HA.out
                  clear HA
                  simp only [spec_l27Draw.j2] at H
                  replace H := Option.bind_eq_some_iff.mp H
                  obtain ⟨⟨t438, t439, t440⟩, A490, H⟩ := H
                  replace H : (if t438 = true then ((spec_l27Name.f kj35 s0_0 t439 t440).bind fun bt441 => (some (x417000_3, bt441.1, 0, 0, 0, 0, (wrap64 (1 - (wrap64 (2 * t429)))), x417007_35, t432, bt441.2.1, bt441.2.2))) else ((spec_l02DrawLine.f kj35 s0_0 t439 t440).bind fun bt444 => (some (x417000_3, (⟨#[]⟩ : ByteArray), bt444.1, bt444.2.1, bt444.2.2.1, bt444.2.2.2.1, (wrap64 (1 - (wrap64 (2 * t429)))), x417007_35, t432, bt444.2.2.2.2.1, bt444.2.2.2.2.2)))) = some (r1, r2, r3, r4, r5, r6, r7, r8, r9, r10, r11) := H
                  have A49 := Aside0.mk A490
                  clear A490
                  by_cases c50 : t438 = true
                  · subst c50
                    rw [if_pos rfl] at H
                    replace H := Option.bind_eq_some_iff.mp H
                    obtain ⟨⟨t441, t442, t443⟩, A510, H⟩ := H
                    replace H : (some (x417000_3, t441, 0, 0, 0, 0, (wrap64 (1 - (wrap64 (2 * t429)))), x417007_35, t432, t442, t443)) = some (r1, r2, r3, r4, r5, r6, r7, r8, r9, r10, r11) := H
                    have A51 := Aside0.mk A510
                    clear A510
                    simp only [Option.some.injEq, Prod.mk.injEq] at H
                    obtain ⟨rfl, rfl, rfl, rfl, rfl, rfl, rfl, rfl, rfl, rfl, rfl⟩ := H
                    go_wp2_with (first | ((with_reducible refine gate_callee (f := 110) rfl ?_); refine gl (some 39) Tryd.func110 #[.pointer (some ⟨g, 0, none⟩), .int .i64 4] ?_; (with_reducible refine (spec_l00Src_one.calls kj35 g s0_0 x1001_35 x1002_35 4 true t439 t440 w0 _ ?side1 ?side2 A49.out).mono ?_); (case side1 => repeat (first | (with_reducible first | exact HI0.out | apply IsS143.alloc | apply IsS143.drewN | apply IsS143.drew | apply IsS143.set_1 | apply IsS143.set_2 | refine IsS143.far ?_ NB0_412.out _ | refine IsS143.far ?_ NB0_416.out _) | exact HI0.out)); (case side2 => repeat (first | (with_reducible first | exact HB.out | apply below_alloc | apply pw_below_drewN | apply below_drew1 | refine below_set ?_ (IsS143.ge HI0.out) | refine below_set ?_ GE412.out | refine below_set ?_ GE416.out) | exact HB.out)); rintro e w52 ⟨rfl, hi, hb, hk⟩; refine ⟨_, rfl, ?_⟩; replace BK412 := Aside0.mk (KeepBut.blk hk (g' := gb412) (o := .cells #[.int .i64 0, .string (⟨#[]⟩ : ByteArray), .int .i64 0, .int .i64 0, .int .i64 0, .int .i64 0, .int .i64 0, .int .i64 0, .bool false] 34 (0, 0)) (by refine bk (h := ?_); exact BK412.out) NB412_0.out (by simp)); replace BK416 := Aside0.mk (KeepBut.blk hk (g' := gb416) (o := .cells #[.int .i64 x417000_3, .string (⟨#[]⟩ : ByteArray), .int .i64 0, .int .i64 0, .int .i64 0, .int .i64 0, .int .i64 (wrap64 (1 - (wrap64 (2 * t429)))), .int .i64 x417007_35, .bool t432] 34 (0, 0)) (by refine bk (h := ?_); exact BK416.out) NB416_0.out (by simp)); replace HK := Aside0.mk (KeepBut.trans (by repeat (first | (with_reducible first | exact HK.out | apply KeepBut.set_ | apply keep_drewN | apply keep_drew | apply keep_alloc | refine keep_far ?_ GW412.out _ | refine keep_far ?_ GW416.out _) | exact HK.out)) hk (.inl rfl)); replace HB := Aside0.mk (hb); replace HI0 := Aside0.mk (hi); (try clear hb); (try clear hb2); (try clear hk); (try clear hi)) | ((with_reducible refine gate_callee (f := 111) rfl ?_); refine gl (some 41) Tryd.func111 #[.pointer (some ⟨g, 0, none⟩)] ?_; (with_reducible refine (spec_l27Name.calls kj35 g s0_0 t439 t440 t441 t442 t443 w0 _ ?side1 ?side2 A51.out).mono ?_); (case side1 => repeat (first | (with_reducible first | exact HI0.out | apply IsS143.alloc | apply IsS143.drewN | apply IsS143.drew | apply IsS143.set_1 | apply IsS143.set_2 | refine IsS143.far ?_ NB0_412.out _ | refine IsS143.far ?_ NB0_416.out _) | exact HI0.out)); (case side2 => repeat (first | (with_reducible first | exact HB.out | apply below_alloc | apply pw_below_drewN | apply below_drew1 | refine below_set ?_ (IsS143.ge HI0.out) | refine below_set ?_ GE412.out | refine below_set ?_ GE416.out) | exact HB.out)); rintro e w53 ⟨rfl, hi, hb, hk⟩; refine ⟨_, rfl, ?_⟩; replace BK412 := Aside0.mk (KeepBut.blk hk (g' := gb412) (o := .cells #[.int .i64 0, .string (⟨#[]⟩ : ByteArray), .int .i64 0, .int .i64 0, .int .i64 0, .int .i64 0, .int .i64 0, .int .i64 0, .bool false] 34 (0, 0)) (by refine bk (h := ?_); exact BK412.out) NB412_0.out (by simp)); replace BK416 := Aside0.mk (KeepBut.blk hk (g' := gb416) (o := .cells #[.int .i64 x417000_3, .string (⟨#[]⟩ : ByteArray), .int .i64 0, .int .i64 0, .int .i64 0, .int .i64 0, .int .i64 (wrap64 (1 - (wrap64 (2 * t429)))), .int .i64 x417007_35, .bool t432] 34 (0, 0)) (by refine bk (h := ?_); exact BK416.out) NB416_0.out (by simp)); replace HK := Aside0.mk (KeepBut.trans (by repeat (first | (with_reducible first | exact HK.out | apply KeepBut.set_ | apply keep_drewN | apply keep_drew | apply keep_alloc | refine keep_far ?_ GW412.out _ | refine keep_far ?_ GW416.out _) | exact HK.out)) hk (.inl rfl)); replace HB := Aside0.mk (hb); replace HI0 := Aside0.mk (hi); (try clear hb); (try clear hb2); (try clear hk); (try clear hi); have hnb54 := NB416_412.out; have hnc54 := NB412_416.out; have hnb55 := NB416_0.out; have hnc55 := NB0_416.out; obtain ⟨z56_0, z56_1, z56_2, z56_3, z56_4, z56_5, z56_6, z56_7, z56_8, y56_0, y56_1, y56_2, y56_3, y56_4, y56_5, y56_6, y56_7, y56_8⟩ := bq9 BK416; have hnb57 := NB412_0.out; have hnc57 := NB0_412.out; obtain ⟨z58_0, z58_1, z58_2, z58_3, z58_4, z58_5, z58_6, z58_7, z58_8, y58_0, y58_1, y58_2, y58_3, y58_4, y58_5, y58_6, y58_7, y58_8⟩ := bq9 BK412))
                    refine bodyPost_ret (results_cell_row rfl _ _ gb412 34 #[.int .i64 x417000_3, .string t441, .int .i64 0, .int .i64 0, .int .i64 0, .int .i64 0, .int .i64 (wrap64 (1 - (wrap64 (2 * t429)))), .int .i64 x417007_35, .bool t432] (0, 0) _ rfl (by refine bk (h := ?_); refine blk_put (cs := #[.int .i64 x417000_3, .string t441, .int .i64 0, .int .i64 0, .int .i64 0, .int .i64 0, .int .i64 (wrap64 (1 - (wrap64 (2 * t429)))), .int .i64 x417007_35, .bool false]) ?_ 8 _ rfl; refine bk (h := ?_); refine blk_put (cs := #[.int .i64 x417000_3, .string t441, .int .i64 0, .int .i64 0, .int .i64 0, .int .i64 0, .int .i64 (wrap64 (1 - (wrap64 (2 * t429)))), .int .i64 0, .bool false]) ?_ 7 _ rfl; refine bk (h := ?_); refine blk_put (cs := #[.int .i64 x417000_3, .string t441, .int .i64 0, .int .i64 0, .int .i64 0, .int .i64 0, .int .i64 0, .int .i64 0, .bool false]) ?_ 6 _ rfl; refine bk (h := ?_); refine blk_put (cs := #[.int .i64 x417000_3, .string t441, .int .i64 0, .int .i64 0, .int .i64 0, .int .i64 0, .int .i64 0, .int .i64 0, .bool false]) ?_ 5 _ rfl; refine bk (h := ?_); refine blk_put (cs := #[.int .i64 x417000_3, .string t441, .int .i64 0, .int .i64 0, .int .i64 0, .int .i64 0, .int .i64 0, .int .i64 0, .bool false]) ?_ 4 _ rfl; refine bk (h := ?_); refine blk_put (cs := #[.int .i64 x417000_3, .string t441, .int .i64 0, .int .i64 0, .int .i64 0, .int .i64 0, .int .i64 0, .int .i64 0, .bool false]) ?_ 3 _ rfl; refine bk (h := ?_); refine blk_put (cs := #[.int .i64 x417000_3, .string t441, .int .i64 0, .int .i64 0, .int .i64 0, .int .i64 0, .int .i64 0, .int .i64 0, .bool false]) ?_ 2 _ rfl; refine bk (h := ?_); refine blk_put (cs := #[.int .i64 x417000_3, .string (⟨#[]⟩ : ByteArray), .int .i64 0, .int .i64 0, .int .i64 0, .int .i64 0, .int .i64 0, .int .i64 0, .bool false]) ?_ 1 _ rfl; refine bk (h := ?_); refine blk_put (cs := #[.int .i64 0, .string (⟨#[]⟩ : ByteArray), .int .i64 0, .int .i64 0, .int .i64 0, .int .i64 0, .int .i64 0, .int .i64 0, .bool false]) ?_ 0 _ rfl; refine bk (h := ?_); refine blk_far ?_ NB412_416.out _; refine bk (h := ?_); exact BK412.out) Tryd.underlying34 rfl (by kernel_rfl)) rfl ?_
                    exact ⟨er, by repeat (first | (with_reducible first | exact HI0.out | apply IsS143.alloc | apply IsS143.drewN | apply IsS143.drew | apply IsS143.set_1 | apply IsS143.set_2 | refine IsS143.far ?_ NB0_412.out _ | refine IsS143.far ?_ NB0_416.out _) | exact HI0.out), by repeat (first | (with_reducible first | exact HB.out | apply below_alloc | apply pw_below_drewN | apply below_drew1 | refine below_set ?_ (IsS143.ge HI0.out) | refine below_set ?_ GE412.out | refine below_set ?_ GE416.out) | exact HB.out), by repeat (first | (with_reducible first | exact HK.out | apply KeepBut.set_ | apply keep_drewN | apply keep_drew | apply keep_alloc | refine keep_far ?_ GW412.out _ | refine keep_far ?_ GW416.out _) | exact HK.out)⟩
                  · replace c50 := Bool.eq_false_iff.mpr c50
                    subst c50
                    rw [if_neg nf] at H
                    replace H := Option.bind_eq_some_iff.mp H
                    obtain ⟨⟨t444, t445, t446, t447, t448, t449⟩, A590, H⟩ := H
                    replace H : (some (x417000_3, (⟨#[]⟩ : ByteArray), t444, t445, t446, t447, (wrap64 (1 - (wrap64 (2 * t429)))), x417007_35, t432, t448, t449)) = some (r1, r2, r3, r4, r5, r6, r7, r8, r9, r10, r11) := H
                    have A59 := Aside0.mk A590
                    clear A590
                    simp only [Option.some.injEq, Prod.mk.injEq] at H
                    obtain ⟨rfl, rfl, rfl, rfl, rfl, rfl, rfl, rfl, rfl, rfl, rfl⟩ := H
                    go_wp2_with (first | ((with_reducible refine gate_callee (f := 110) rfl ?_); refine gl (some 39) Tryd.func110 #[.pointer (some ⟨g, 0, none⟩), .int .i64 4] ?_; (with_reducible refine (spec_l00Src_one.calls kj35 g s0_0 x1001_35 x1002_35 4 false t439 t440 w0 _ ?side1 ?side2 A49.out).mono ?_); (case side1 => repeat (first | (with_reducible first | exact HI0.out | apply IsS143.alloc | apply IsS143.drewN | apply IsS143.drew | apply IsS143.set_1 | apply IsS143.set_2 | refine IsS143.far ?_ NB0_412.out _ | refine IsS143.far ?_ NB0_416.out _) | exact HI0.out)); (case side2 => repeat (first | (with_reducible first | exact HB.out | apply below_alloc | apply pw_below_drewN | apply below_drew1 | refine below_set ?_ (IsS143.ge HI0.out) | refine below_set ?_ GE412.out | refine below_set ?_ GE416.out) | exact HB.out)); rintro e w60 ⟨rfl, hi, hb, hk⟩; refine ⟨_, rfl, ?_⟩; replace BK412 := Aside0.mk (KeepBut.blk hk (g' := gb412) (o := .cells #[.int .i64 0, .string (⟨#[]⟩ : ByteArray), .int .i64 0, .int .i64 0, .int .i64 0, .int .i64 0, .int .i64 0, .int .i64 0, .bool false] 34 (0, 0)) (by refine bk (h := ?_); exact BK412.out) NB412_0.out (by simp)); replace BK416 := Aside0.mk (KeepBut.blk hk (g' := gb416) (o := .cells #[.int .i64 x417000_3, .string (⟨#[]⟩ : ByteArray), .int .i64 0, .int .i64 0, .int .i64 0, .int .i64 0, .int .i64 (wrap64 (1 - (wrap64 (2 * t429)))), .int .i64 x417007_35, .bool t432] 34 (0, 0)) (by refine bk (h := ?_); exact BK416.out) NB416_0.out (by simp)); replace HK := Aside0.mk (KeepBut.trans (by repeat (first | (with_reducible first | exact HK.out | apply KeepBut.set_ | apply keep_drewN | apply keep_drew | apply keep_alloc | refine keep_far ?_ GW412.out _ | refine keep_far ?_ GW416.out _) | exact HK.out)) hk (.inl rfl)); replace HB := Aside0.mk (hb); replace HI0 := Aside0.mk (hi); (try clear hb); (try clear hb2); (try clear hk); (try clear hi)) | ((with_reducible refine gate_callee (f := 112) rfl ?_); refine gl (some 44) Tryd.func112 #[.pointer (some ⟨g, 0, none⟩)] ?_; (with_reducible refine (spec_l02DrawLine.calls kj35 g s0_0 t439 t440 t444 t445 t446 t447 t448 t449 w0 _ ?side1 ?side2 A59.out).mono ?_); (case side1 => repeat (first | (with_reducible first | exact HI0.out | apply IsS143.alloc | apply IsS143.drewN | apply IsS143.drew | apply IsS143.set_1 | apply IsS143.set_2 | refine IsS143.far ?_ NB0_412.out _ | refine IsS143.far ?_ NB0_416.out _) | exact HI0.out)); (case side2 => repeat (first | (with_reducible first | exact HB.out | apply below_alloc | apply pw_below_drewN | apply below_drew1 | refine below_set ?_ (IsS143.ge HI0.out) | refine below_set ?_ GE412.out | refine below_set ?_ GE416.out) | exact HB.out)); rintro e w61 ⟨rfl, hi, hb, hk⟩; refine ⟨_, rfl, ?_⟩; replace BK412 := Aside0.mk (KeepBut.blk hk (g' := gb412) (o := .cells #[.int .i64 0, .string (⟨#[]⟩ : ByteArray), .int .i64 0, .int .i64 0, .int .i64 0, .int .i64 0, .int .i64 0, .int .i64 0, .bool false] 34 (0, 0)) (by refine bk (h := ?_); exact BK412.out) NB412_0.out (by simp)); replace BK416 := Aside0.mk (KeepBut.blk hk (g' := gb416) (o := .cells #[.int .i64 x417000_3, .string (⟨#[]⟩ : ByteArray), .int .i64 0, .int .i64 0, .int .i64 0, .int .i64 0, .int .i64 (wrap64 (1 - (wrap64 (2 * t429)))), .int .i64 x417007_35, .bool t432] 34 (0, 0)) (by refine bk (h := ?_); exact BK416.out) NB416_0.out (by simp)); replace HK := Aside0.mk (KeepBut.trans (by repeat (first | (with_reducible first | exact HK.out | apply KeepBut.set_ | apply keep_drewN | apply keep_drew | apply keep_alloc | refine keep_far ?_ GW412.out _ | refine keep_far ?_ GW416.out _) | exact HK.out)) hk (.inl rfl)); replace HB := Aside0.mk (hb); replace HI0 := Aside0.mk (hi); (try clear hb); (try clear hb2); (try clear hk); (try clear hi); have hnb62 := NB416_412.out; have hnc62 := NB412_416.out; have hnb63 := NB416_0.out; have hnc63 := NB0_416.out; obtain ⟨z64_0, z64_1, z64_2, z64_3, z64_4, z64_5, z64_6, z64_7, z64_8, y64_0, y64_1, y64_2, y64_3, y64_4, y64_5, y64_6, y64_7, y64_8⟩ := bq9 BK416; have hnb65 := NB412_0.out; have hnc65 := NB0_412.out; obtain ⟨z66_0, z66_1, z66_2, z66_3, z66_4, z66_5, z66_6, z66_7, z66_8, y66_0, y66_1, y66_2, y66_3, y66_4, y66_5, y66_6, y66_7, y66_8⟩ := bq9 BK412))
                    refine bodyPost_ret (results_cell_row rfl _ _ gb412 34 #[.int .i64 x417000_3, .string (⟨#[]⟩ : ByteArray), .int .i64 t444, .int .i64 t445, .int .i64 t446, .int .i64 t447, .int .i64 (wrap64 (1 - (wrap64 (2 * t429)))), .int .i64 x417007_35, .bool t432] (0, 0) _ rfl (by refine bk (h := ?_); refine blk_put (cs := #[.int .i64 x417000_3, .string (⟨#[]⟩ : ByteArray), .int .i64 t444, .int .i64 t445, .int .i64 t446, .int .i64 t447, .int .i64 (wrap64 (1 - (wrap64 (2 * t429)))), .int .i64 x417007_35, .bool false]) ?_ 8 _ rfl; refine bk (h := ?_); refine blk_put (cs := #[.int .i64 x417000_3, .string (⟨#[]⟩ : ByteArray), .int .i64 t444, .int .i64 t445, .int .i64 t446, .int .i64 t447, .int .i64 (wrap64 (1 - (wrap64 (2 * t429)))), .int .i64 0, .bool false]) ?_ 7 _ rfl; refine bk (h := ?_); refine blk_put (cs := #[.int .i64 x417000_3, .string (⟨#[]⟩ : ByteArray), .int .i64 t444, .int .i64 t445, .int .i64 t446, .int .i64 t447, .int .i64 0, .int .i64 0, .bool false]) ?_ 6 _ rfl; refine bk (h := ?_); refine blk_put (cs := #[.int .i64 x417000_3, .string (⟨#[]⟩ : ByteArray), .int .i64 t444, .int .i64 t445, .int .i64 t446, .int .i64 0, .int .i64 0, .int .i64 0, .bool false]) ?_ 5 _ rfl; refine bk (h := ?_); refine blk_put (cs := #[.int .i64 x417000_3, .string (⟨#[]⟩ : ByteArray), .int .i64 t444, .int .i64 t445, .int .i64 0, .int .i64 0, .int .i64 0, .int .i64 0, .bool false]) ?_ 4 _ rfl; refine bk (h := ?_); refine blk_put (cs := #[.int .i64 x417000_3, .string (⟨#[]⟩ : ByteArray), .int .i64 t444, .int .i64 0, .int .i64 0, .int .i64 0, .int .i64 0, .int .i64 0, .bool false]) ?_ 3 _ rfl; refine bk (h := ?_); refine blk_put (cs := #[.int .i64 x417000_3, .string (⟨#[]⟩ : ByteArray), .int .i64 0, .int .i64 0, .int .i64 0, .int .i64 0, .int .i64 0, .int .i64 0, .bool false]) ?_ 2 _ rfl; refine bk (h := ?_); refine blk_put (cs := #[.int .i64 x417000_3, .string (⟨#[]⟩ : ByteArray), .int .i64 0, .int .i64 0, .int .i64 0, .int .i64 0, .int .i64 0, .int .i64 0, .bool false]) ?_ 1 _ rfl; refine bk (h := ?_); refine blk_put (cs := #[.int .i64 0, .string (⟨#[]⟩ : ByteArray), .int .i64 0, .int .i64 0, .int .i64 0, .int .i64 0, .int .i64 0, .int .i64 0, .bool false]) ?_ 0 _ rfl; refine bk (h := ?_); refine blk_far ?_ NB412_416.out _; refine bk (h := ?_); refine blk_far ?_ NB412_416.out _; refine bk (h := ?_); refine blk_far ?_ NB412_416.out _; refine bk (h := ?_); refine blk_far ?_ NB412_416.out _; refine bk (h := ?_); exact BK412.out) Tryd.underlying34 rfl (by kernel_rfl)) rfl ?_
                    exact ⟨er, by repeat (first | (with_reducible first | exact HI0.out | apply IsS143.alloc | apply IsS143.drewN | apply IsS143.drew | apply IsS143.set_1 | apply IsS143.set_2 | refine IsS143.far ?_ NB0_412.out _ | refine IsS143.far ?_ NB0_416.out _) | exact HI0.out), by repeat (first | (with_reducible first | exact HB.out | apply below_alloc | apply pw_below_drewN | apply below_drew1 | refine below_set ?_ (IsS143.ge HI0.out) | refine below_set ?_ GE412.out | refine below_set ?_ GE416.out) | exact HB.out), by repeat (first | (with_reducible first | exact HK.out | apply KeepBut.set_ | apply keep_drewN | apply keep_drew | apply keep_alloc | refine keep_far ?_ GW412.out _ | refine keep_far ?_ GW416.out _) | exact HK.out)⟩
            · replace c33 := Bool.eq_false_iff.mpr c33
              subst c33
              rw [if_neg nf] at H
              simp only [Option.some.injEq, Prod.mk.injEq] at H
              obtain ⟨rfl, rfl, rfl, rfl, rfl, rfl, rfl, rfl, rfl, rfl, rfl⟩ := H
              have hnb67 := NB416_412.out
              have hnc67 := NB412_416.out
              have hnb68 := NB416_0.out
              have hnc68 := NB0_416.out
              obtain ⟨z69_0, z69_1, z69_2, z69_3, z69_4, z69_5, z69_6, z69_7, z69_8, y69_0, y69_1, y69_2, y69_3, y69_4, y69_5, y69_6, y69_7, y69_8⟩ := bq9 BK416
              have hnb70 := NB412_0.out
              have hnc70 := NB0_412.out
              obtain ⟨z71_0, z71_1, z71_2, z71_3, z71_4, z71_5, z71_6, z71_7, z71_8, y71_0, y71_1, y71_2, y71_3, y71_4, y71_5, y71_6, y71_7, y71_8⟩ := bq9 BK412
              go_wp2
              refine bodyPost_ret (results_cell_row rfl _ _ gb412 34 #[.int .i64 x417000_3, .string (⟨#[]⟩ : ByteArray), .int .i64 0, .int .i64 0, .int .i64 0, .int .i64 0, .int .i64 0, .int .i64 0, .bool false] (0, 0) _ rfl (by refine bk (h := ?_); refine blk_put (cs := #[.int .i64 x417000_3, .string (⟨#[]⟩ : ByteArray), .int .i64 0, .int .i64 0, .int .i64 0, .int .i64 0, .int .i64 0, .int .i64 0, .bool false]) ?_ 8 _ rfl; refine bk (h := ?_); refine blk_put (cs := #[.int .i64 x417000_3, .string (⟨#[]⟩ : ByteArray), .int .i64 0, .int .i64 0, .int .i64 0, .int .i64 0, .int .i64 0, .int .i64 0, .bool false]) ?_ 7 _ rfl; refine bk (h := ?_); refine blk_put (cs := #[.int .i64 x417000_3, .string (⟨#[]⟩ : ByteArray), .int .i64 0, .int .i64 0, .int .i64 0, .int .i64 0, .int .i64 0, .int .i64 0, .bool false]) ?_ 6 _ rfl; refine bk (h := ?_); refine blk_put (cs := #[.int .i64 x417000_3, .string (⟨#[]⟩ : ByteArray), .int .i64 0, .int .i64 0, .int .i64 0, .int .i64 0, .int .i64 0, .int .i64 0, .bool false]) ?_ 5 _ rfl; refine bk (h := ?_); refine blk_put (cs := #[.int .i64 x417000_3, .string (⟨#[]⟩ : ByteArray), .int .i64 0, .int .i64 0, .int .i64 0, .int .i64 0, .int .i64 0, .int .i64 0, .bool false]) ?_ 4 _ rfl; refine bk (h := ?_); refine blk_put (cs := #[.int .i64 x417000_3, .string (⟨#[]⟩ : ByteArray), .int .i64 0, .int .i64 0, .int .i64 0, .int .i64 0, .int .i64 0, .int .i64 0, .bool false]) ?_ 3 _ rfl; refine bk (h := ?_); refine blk_put (cs := #[.int .i64 x417000_3, .string (⟨#[]⟩ : ByteArray), .int .i64 0, .int .i64 0, .int .i64 0, .int .i64 0, .int .i64 0, .int .i64 0, .bool false]) ?_ 2 _ rfl; refine bk (h := ?_); refine blk_put (cs := #[.int .i64 x417000_3, .string (⟨#[]⟩ : ByteArray), .int .i64 0, .int .i64 0, .int .i64 0, .int .i64 0, .int .i64 0, .int .i64 0, .bool false]) ?_ 1 _ rfl; refine bk (h := ?_); refine blk_put (cs := #[.int .i64 0, .string (⟨#[]⟩ : ByteArray), .int .i64 0, .int .i64 0, .int .i64 0, .int .i64 0, .int .i64 0, .int .i64 0, .bool false]) ?_ 0 _ rfl; refine bk (h := ?_); exact BK412.out) Tryd.underlying34 rfl (by kernel_rfl)) rfl ?_
              exact ⟨er, by repeat (first | (with_reducible first | exact HI0.out | apply IsS143.alloc | apply IsS143.drewN | apply IsS143.drew | apply IsS143.set_1 | apply IsS143.set_2 | refine IsS143.far ?_ NB0_412.out _ | refine IsS143.far ?_ NB0_416.out _) | exact HI0.out), by repeat (first | (with_reducible first | exact HB.out | apply below_alloc | apply pw_below_drewN | apply below_drew1 | refine below_set ?_ (IsS143.ge HI0.out) | refine below_set ?_ GE412.out | refine below_set ?_ GE416.out) | exact HB.out), by repeat (first | (with_reducible first | exact HK.out | apply KeepBut.set_ | apply keep_drewN | apply keep_drew | apply keep_alloc | refine keep_far ?_ GW412.out _ | refine keep_far ?_ GW416.out _) | exact HK.out)⟩

end Go.Proofs.YteadienaeapaeaaDoor.PW
