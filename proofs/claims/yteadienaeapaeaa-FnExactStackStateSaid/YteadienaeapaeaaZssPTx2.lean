-- Made by a program of this session (myprint.py) out of the translation.
import Derived.Test.YteadienaeapaeaaZssPTx0
import Derived.Test.YteadienaeapaeaaZssPTx1
import Derived.Test.YteadienaeapaeaaZssShort
namespace Go.Proofs.Yteadienaeapaeaa.PT
open Go.Proofs.Yteadienaeapaeaa.Short
open Go.Proofs.Yteadienaeapaeaa.Dyn
open Go.RowKit Go.Proofs.YteadienaeapaeaaW.PrintWords Go.Proofs.YteadienaeapaeaaW.PrintLast Go.Proofs.YteadienaeapaeaaW.PrintMore
attribute [local go_sem] max2_int min2_int max_two min_two max_three min_three max_four min_four   -- for this text's walks alone
set_option linter.unusedVariables false
set_option linter.unusedSimpArgs false

/-! ### spec_l26Box: function 92 -/
def spec_l26Box.f (a0 : Int) (a1 : Int) (a2 : Int) (a3 : Int) : Option ((List (S130))) := (spec_l26Point.f a0 a1).bind fun bt133 => ((spec_l26Point.f (wrap64 (a0 + a2)) a1).bind fun bt139 => ((spec_l26Point.f (wrap64 (a0 + a2)) (wrap64 (a1 + a3))).bind fun bt145 => ((spec_l26Point.f a0 (wrap64 (a1 + a3))).bind fun bt151 => (some (([(⟨(⟨bt133.1, bt133.2.1, bt133.2.2.1⟩ : S94), (⟨bt133.2.2.2.1, bt133.2.2.2.2.1, bt133.2.2.2.2.2⟩ : S94)⟩ : S130), (⟨(⟨bt139.1, bt139.2.1, bt139.2.2.1⟩ : S94), (⟨bt139.2.2.2.1, bt139.2.2.2.2.1, bt139.2.2.2.2.2⟩ : S94)⟩ : S130), (⟨(⟨bt145.1, bt145.2.1, bt145.2.2.1⟩ : S94), (⟨bt145.2.2.2.1, bt145.2.2.2.2.1, bt145.2.2.2.2.2⟩ : S94)⟩ : S130), (⟨(⟨bt151.1, bt151.2.1, bt151.2.2.1⟩ : S94), (⟨bt151.2.2.2.1, bt151.2.2.2.2.1, bt151.2.2.2.2.2⟩ : S94)⟩ : S130)] : List (S130)))))))
set_option maxHeartbeats 8000000 in
set_option maxRecDepth 100000 in
theorem spec_l26Box.calls (a0 : Int) (a1 : Int) (a2 : Int) (a3 : Int) (r : List (S130)) (w : World) (h : spec_l26Box.f a0 a1 a2 a3 = some r) :
    Calls Try.prog 92 #[.int .i64 a0, .int .i64 a1, .int .i64 a2, .int .i64 a3] w fun e w' => ∃ v0_ : Value, e = .returned (v0_) ∧ Kd.R k130 130 w' w.heap.size (fun _ => True) v0_ r ∧ Below w.heap.size w w' := by
  have HB := Aside0.mk (Below.refl w.heap.size w)
  have H : ((spec_l26Point.f a0 a1).bind fun bt133 => ((spec_l26Point.f (wrap64 (a0 + a2)) a1).bind fun bt139 => ((spec_l26Point.f (wrap64 (a0 + a2)) (wrap64 (a1 + a3))).bind fun bt145 => ((spec_l26Point.f a0 (wrap64 (a1 + a3))).bind fun bt151 => (some (([(⟨(⟨bt133.1, bt133.2.1, bt133.2.2.1⟩ : S94), (⟨bt133.2.2.2.1, bt133.2.2.2.2.1, bt133.2.2.2.2.2⟩ : S94)⟩ : S130), (⟨(⟨bt139.1, bt139.2.1, bt139.2.2.1⟩ : S94), (⟨bt139.2.2.2.1, bt139.2.2.2.2.1, bt139.2.2.2.2.2⟩ : S94)⟩ : S130), (⟨(⟨bt145.1, bt145.2.1, bt145.2.2.1⟩ : S94), (⟨bt145.2.2.2.1, bt145.2.2.2.2.1, bt145.2.2.2.2.2⟩ : S94)⟩ : S130), (⟨(⟨bt151.1, bt151.2.1, bt151.2.2.1⟩ : S94), (⟨bt151.2.2.2.1, bt151.2.2.2.2.1, bt151.2.2.2.2.2⟩ : S94)⟩ : S130)] : List (S130)))))))) = some r := h
  clear h
  replace H := Option.bind_eq_some_iff.mp H
  obtain ⟨⟨t133, t134, t135, t136, t137, t138⟩, A50, H⟩ := H
  replace H : ((spec_l26Point.f (wrap64 (a0 + a2)) a1).bind fun bt139 => ((spec_l26Point.f (wrap64 (a0 + a2)) (wrap64 (a1 + a3))).bind fun bt145 => ((spec_l26Point.f a0 (wrap64 (a1 + a3))).bind fun bt151 => (some (([(⟨(⟨t133, t134, t135⟩ : S94), (⟨t136, t137, t138⟩ : S94)⟩ : S130), (⟨(⟨bt139.1, bt139.2.1, bt139.2.2.1⟩ : S94), (⟨bt139.2.2.2.1, bt139.2.2.2.2.1, bt139.2.2.2.2.2⟩ : S94)⟩ : S130), (⟨(⟨bt145.1, bt145.2.1, bt145.2.2.1⟩ : S94), (⟨bt145.2.2.2.1, bt145.2.2.2.2.1, bt145.2.2.2.2.2⟩ : S94)⟩ : S130), (⟨(⟨bt151.1, bt151.2.1, bt151.2.2.1⟩ : S94), (⟨bt151.2.2.2.1, bt151.2.2.2.2.1, bt151.2.2.2.2.2⟩ : S94)⟩ : S130)] : List (S130))))))) = some r := H
  have A5 := Aside0.mk A50
  clear A50
  replace H := Option.bind_eq_some_iff.mp H
  obtain ⟨⟨t139, t140, t141, t142, t143, t144⟩, A60, H⟩ := H
  replace H : ((spec_l26Point.f (wrap64 (a0 + a2)) (wrap64 (a1 + a3))).bind fun bt145 => ((spec_l26Point.f a0 (wrap64 (a1 + a3))).bind fun bt151 => (some (([(⟨(⟨t133, t134, t135⟩ : S94), (⟨t136, t137, t138⟩ : S94)⟩ : S130), (⟨(⟨t139, t140, t141⟩ : S94), (⟨t142, t143, t144⟩ : S94)⟩ : S130), (⟨(⟨bt145.1, bt145.2.1, bt145.2.2.1⟩ : S94), (⟨bt145.2.2.2.1, bt145.2.2.2.2.1, bt145.2.2.2.2.2⟩ : S94)⟩ : S130), (⟨(⟨bt151.1, bt151.2.1, bt151.2.2.1⟩ : S94), (⟨bt151.2.2.2.1, bt151.2.2.2.2.1, bt151.2.2.2.2.2⟩ : S94)⟩ : S130)] : List (S130)))))) = some r := H
  have A6 := Aside0.mk A60
  clear A60
  replace H := Option.bind_eq_some_iff.mp H
  obtain ⟨⟨t145, t146, t147, t148, t149, t150⟩, A70, H⟩ := H
  replace H : ((spec_l26Point.f a0 (wrap64 (a1 + a3))).bind fun bt151 => (some (([(⟨(⟨t133, t134, t135⟩ : S94), (⟨t136, t137, t138⟩ : S94)⟩ : S130), (⟨(⟨t139, t140, t141⟩ : S94), (⟨t142, t143, t144⟩ : S94)⟩ : S130), (⟨(⟨t145, t146, t147⟩ : S94), (⟨t148, t149, t150⟩ : S94)⟩ : S130), (⟨(⟨bt151.1, bt151.2.1, bt151.2.2.1⟩ : S94), (⟨bt151.2.2.2.1, bt151.2.2.2.2.1, bt151.2.2.2.2.2⟩ : S94)⟩ : S130)] : List (S130))))) = some r := H
  have A7 := Aside0.mk A70
  clear A70
  replace H := Option.bind_eq_some_iff.mp H
  obtain ⟨⟨t151, t152, t153, t154, t155, t156⟩, A80, H⟩ := H
  replace H : (some (([(⟨(⟨t133, t134, t135⟩ : S94), (⟨t136, t137, t138⟩ : S94)⟩ : S130), (⟨(⟨t139, t140, t141⟩ : S94), (⟨t142, t143, t144⟩ : S94)⟩ : S130), (⟨(⟨t145, t146, t147⟩ : S94), (⟨t148, t149, t150⟩ : S94)⟩ : S130), (⟨(⟨t151, t152, t153⟩ : S94), (⟨t154, t155, t156⟩ : S94)⟩ : S130)] : List (S130)))) = some r := H
  have A8 := Aside0.mk A80
  clear A80
  obtain ⟨y157, hy157⟩ : ∃ y_ : List (S130), y_ = (([(⟨(⟨t133, t134, t135⟩ : S94), (⟨t136, t137, t138⟩ : S94)⟩ : S130), (⟨(⟨t139, t140, t141⟩ : S94), (⟨t142, t143, t144⟩ : S94)⟩ : S130), (⟨(⟨t145, t146, t147⟩ : S94), (⟨t148, t149, t150⟩ : S94)⟩ : S130), (⟨(⟨t151, t152, t153⟩ : S94), (⟨t154, t155, t156⟩ : S94)⟩ : S130)] : List (S130))) := ⟨_, rfl⟩
  replace H : (some y157) = some r := by first | (rw [hy157]; with_reducible exact H) | (have H2_ := (Option.bind_some _ _).symm.trans H; rw [hy157]; with_reducible exact H2_) | (have H2_ := (Option.bind_some _ _).symm.trans H; with_reducible exact H2_) | with_reducible exact H | (rw [hy157]; exact H) | exact H
  have Ny157 := Aside0.mk hy157
  clear hy157
  obtain rfl := Option.some.inj H
  go_enter Try.func92, Try.ntmps92
  go_wp2_with (first | ((with_reducible refine gate_callee (f := 104) rfl ?_); refine gl (some 11) Try.func104 #[.int .i64 a0, .int .i64 a1] ?_; (with_reducible refine (spec_l26Point.calls a0 a1 t133 t134 t135 t136 t137 t138 _ A5.out).mono ?_); rintro e w9 ⟨rfl, hb⟩; refine ⟨_, rfl, ?_⟩; replace HB := bs hb; (try clear hb); (try clear hb2); (try clear hk); (try clear hi)) | ((with_reducible refine gate_callee (f := 104) rfl ?_); refine gl (some 16) Try.func104 #[.int .i64 (wrap64 (a0 + a2)), .int .i64 a1] ?_; (with_reducible refine (spec_l26Point.calls (wrap64 (a0 + a2)) a1 t139 t140 t141 t142 t143 t144 _ A6.out).mono ?_); rintro e w10 ⟨rfl, hb⟩; refine ⟨_, rfl, ?_⟩; replace HB := bs hb; (try clear hb); (try clear hb2); (try clear hk); (try clear hi)) | ((with_reducible refine gate_callee (f := 104) rfl ?_); refine gl (some 23) Try.func104 #[.int .i64 (wrap64 (a0 + a2)), .int .i64 (wrap64 (a1 + a3))] ?_; (with_reducible refine (spec_l26Point.calls (wrap64 (a0 + a2)) (wrap64 (a1 + a3)) t145 t146 t147 t148 t149 t150 _ A7.out).mono ?_); rintro e w11 ⟨rfl, hb⟩; refine ⟨_, rfl, ?_⟩; replace HB := bs hb; (try clear hb); (try clear hb2); (try clear hk); (try clear hi)) | ((with_reducible refine gate_callee (f := 104) rfl ?_); refine gl (some 28) Try.func104 #[.int .i64 a0, .int .i64 (wrap64 (a1 + a3))] ?_; (with_reducible refine (spec_l26Point.calls a0 (wrap64 (a1 + a3)) t151 t152 t153 t154 t155 t156 _ A8.out).mono ?_); rintro e w12 ⟨rfl, hb⟩; refine ⟨_, rfl, ?_⟩; replace HB := bs hb; (try clear hb); (try clear hb2); (try clear hk); (try clear hi)) | ((with_reducible refine gate_dst (N := 29) rfl ?_); refine Kd.R_lit k130 _ 130 ?hg (N := 29) ?hd (xs := ([(⟨(⟨t133, t134, t135⟩ : S94), (⟨t136, t137, t138⟩ : S94)⟩ : S130), (⟨(⟨t139, t140, t141⟩ : S94), (⟨t142, t143, t144⟩ : S94)⟩ : S130), (⟨(⟨t145, t146, t147⟩ : S94), (⟨t148, t149, t150⟩ : S94)⟩ : S130), (⟨(⟨t151, t152, t153⟩ : S94), (⟨t154, t155, t156⟩ : S94)⟩ : S130)] : List (S130))) (inner := [.int .i64 t133, .int .i64 t134, .int .i64 t135, .int .i64 t136, .int .i64 t137, .int .i64 t138, .int .i64 t139, .int .i64 t140, .int .i64 t141, .int .i64 t142, .int .i64 t143, .int .i64 t144, .int .i64 t145, .int .i64 t146, .int .i64 t147, .int .i64 t148, .int .i64 t149, .int .i64 t150, .int .i64 t151, .int .i64 t152, .int .i64 t153, .int .i64 t154, .int .i64 t155, .int .i64 t156]) (ok := fun _ => True) (okp := fun _ => True) ?hr ?hp (fun _ hk => hk) trivial (Below.refl _ _) (Nat.le_refl _) (by simp) ?_; (case hd => rfl); (case hg => rfl); (case hr => first | (go_simp; done) | (go_simp; rfl)); (case hp => exact (Reps.c6 (show Kd.M k130 _ _ _ (⟨(⟨t133, t134, t135⟩ : S94), (⟨t136, t137, t138⟩ : S94)⟩ : S130) [.int .i64 t133, .int .i64 t134, .int .i64 t135, .int .i64 t136, .int .i64 t137, .int .i64 t138] from (k130_mkM _ _ _ (⟨(⟨t133, t134, t135⟩ : S94), (⟨t136, t137, t138⟩ : S94)⟩ : S130) )) (Reps.c6 (show Kd.M k130 _ _ _ (⟨(⟨t139, t140, t141⟩ : S94), (⟨t142, t143, t144⟩ : S94)⟩ : S130) [.int .i64 t139, .int .i64 t140, .int .i64 t141, .int .i64 t142, .int .i64 t143, .int .i64 t144] from (k130_mkM _ _ _ (⟨(⟨t139, t140, t141⟩ : S94), (⟨t142, t143, t144⟩ : S94)⟩ : S130) )) (Reps.c6 (show Kd.M k130 _ _ _ (⟨(⟨t145, t146, t147⟩ : S94), (⟨t148, t149, t150⟩ : S94)⟩ : S130) [.int .i64 t145, .int .i64 t146, .int .i64 t147, .int .i64 t148, .int .i64 t149, .int .i64 t150] from (k130_mkM _ _ _ (⟨(⟨t145, t146, t147⟩ : S94), (⟨t148, t149, t150⟩ : S94)⟩ : S130) )) (Reps.c6 (show Kd.M k130 _ _ _ (⟨(⟨t151, t152, t153⟩ : S94), (⟨t154, t155, t156⟩ : S94)⟩ : S130) [.int .i64 t151, .int .i64 t152, .int .i64 t153, .int .i64 t154, .int .i64 t155, .int .i64 t156] from (k130_mkM _ _ _ (⟨(⟨t151, t152, t153⟩ : S94), (⟨t154, t155, t156⟩ : S94)⟩ : S130) )) (Reps.none _ _)))))); intro v158 w13 ho14 hb hg_ hnew_; clear hg_ hnew_; (first | rw [← Ny157.out] at ho14 | (simp only [Int.reduceToNat] at ho14; rw [← Ny157.out] at ho14)); have HO159 := Aside0.mk (Kd.R_lower ho14 (below_size bw)); replace HB := bs hb; clear hb ho14))
  go_ret
  exact ⟨_, er, by refine ra (h := ?_); exact HO159.out, bw⟩

/-! ### spec_l26Motion: function 93 -/
mutual
def spec_l26Motion.j0 : Nat → Int → Int → Int → Bool → Int → Int → Int → Int → Int → Int → Option (Int × Bool × Int × Int × Int × Int × Int × Int)
  | 0, _, _, _, _, _, _, _, _, _, _ => none
  | k + 1, x0, x1, x168000, x168001, x168002, x168003, x168004, x168005, x168006, x168007 => if (Int.tmod x0 2) = 1 then ((spec_l26Num.f (wrap64 (x0 + 1))).bind fun bt171 => (spec_l26Motion.j1 k x0 x1 x168000 x168001 x168002 x168003 x168004 bt171.1 bt171.2.1 bt171.2.2)) else (spec_l26Motion.j1 k x0 x1 x168000 x168001 x168002 x168003 x168004 x168005 x168006 x168007)
def spec_l26Motion.j1 : Nat → Int → Int → Int → Bool → Int → Int → Int → Int → Int → Int → Option (Int × Bool × Int × Int × Int × Int × Int × Int)
  | 0, _, _, _, _, _, _, _, _, _, _ => none
  | k + 1, x0, x1, x168000, x168001, x168002, x168003, x168004, x168005, x168006, x168007 => if (Int.tmod x1 2) = 1 then (some (4, ((Int.tmod (wrap64 (x1 + x0)) 2) == 1), x168002, x168003, x168004, x168005, x168006, x168007)) else (some (x168000, ((Int.tmod (wrap64 (x1 + x0)) 2) == 1), x168002, x168003, x168004, x168005, x168006, x168007))
end
def spec_l26Motion.f (k : Nat) (a0 : Int) (a1 : Int) : Option (Int × Bool × Int × Int × Int × Int × Int × Int) := (spec_l26Num.f (wrap64 (-a1))).bind fun bt161 => ((spec_l26Num.f (wrap64 (-a0))).bind fun bt164 => (if (Int.tmod a1 2) = 1 then ((spec_l26Num.f (wrap64 (a1 + 1))).bind fun bt168 => (spec_l26Motion.j0 k a0 a1 0 false bt168.1 bt168.2.1 bt168.2.2 bt164.1 bt164.2.1 bt164.2.2)) else (spec_l26Motion.j0 k a0 a1 0 false bt161.1 bt161.2.1 bt161.2.2 bt164.1 bt164.2.1 bt164.2.2)))
theorem spec_l26Motion.mono_l : ∀ k, (∀ y0 y1 y2 y3 y4 y5 y6 y7 y8 y9, LeO (spec_l26Motion.j0 k y0 y1 y2 y3 y4 y5 y6 y7 y8 y9) (spec_l26Motion.j0 (k + 1) y0 y1 y2 y3 y4 y5 y6 y7 y8 y9)) ∧ (∀ y0 y1 y2 y3 y4 y5 y6 y7 y8 y9, LeO (spec_l26Motion.j1 k y0 y1 y2 y3 y4 y5 y6 y7 y8 y9) (spec_l26Motion.j1 (k + 1) y0 y1 y2 y3 y4 y5 y6 y7 y8 y9))
  | 0 => ⟨fun _ _ _ _ _ _ _ _ _ _ r h => by simp [spec_l26Motion.j0] at h, fun _ _ _ _ _ _ _ _ _ _ r h => by simp [spec_l26Motion.j1] at h⟩
  | k + 1 => by
    obtain ⟨ih0, ih1⟩ := spec_l26Motion.mono_l k
    refine ⟨?_, ?_⟩
    · intro y0 y1 y2 y3 y4 y5 y6 y7 y8 y9
      unfold spec_l26Motion.j0
      repeat' first
      | (with_reducible exact ih0 _ _ _ _ _ _ _ _ _ _)
      | (with_reducible exact ih1 _ _ _ _ _ _ _ _ _ _)
      | (with_reducible exact LeO.refl _)
      | (with_reducible exact LeO.none _)
      | (with_reducible refine LeO.ite ?_ ?_)
      | (with_reducible refine LeO.bind ?_ (fun _ => ?_))
      | exact ih0 _ _ _ _ _ _ _ _ _ _
      | exact ih1 _ _ _ _ _ _ _ _ _ _
      | exact LeO.none _
      | refine LeO.ite ?_ ?_
      | refine LeO.bind ?_ (fun _ => ?_)
    · intro y0 y1 y2 y3 y4 y5 y6 y7 y8 y9
      unfold spec_l26Motion.j1
      repeat' first
      | (with_reducible exact ih0 _ _ _ _ _ _ _ _ _ _)
      | (with_reducible exact ih1 _ _ _ _ _ _ _ _ _ _)
      | (with_reducible exact LeO.refl _)
      | (with_reducible exact LeO.none _)
      | (with_reducible refine LeO.ite ?_ ?_)
      | (with_reducible refine LeO.bind ?_ (fun _ => ?_))
      | exact ih0 _ _ _ _ _ _ _ _ _ _
      | exact ih1 _ _ _ _ _ _ _ _ _ _
      | exact LeO.none _
      | refine LeO.ite ?_ ?_
      | refine LeO.bind ?_ (fun _ => ?_)
theorem spec_l26Motion.mono : ∀ a0 a1 k, LeO (spec_l26Motion.f k a0 a1) (spec_l26Motion.f (k + 1) a0 a1) := by
  intro a0 a1 k
  obtain ⟨ih0, ih1⟩ := spec_l26Motion.mono_l k
  unfold spec_l26Motion.f
  repeat' first
      | (with_reducible exact ih0 _ _ _ _ _ _ _ _ _ _)
      | (with_reducible exact ih1 _ _ _ _ _ _ _ _ _ _)
      | (with_reducible exact LeO.refl _)
      | (with_reducible exact LeO.none _)
      | (with_reducible refine LeO.ite ?_ ?_)
      | (with_reducible refine LeO.bind ?_ (fun _ => ?_))
      | exact ih0 _ _ _ _ _ _ _ _ _ _
      | exact ih1 _ _ _ _ _ _ _ _ _ _
      | exact LeO.none _
      | refine LeO.ite ?_ ?_
      | refine LeO.bind ?_ (fun _ => ?_)
set_option maxHeartbeats 8000000 in
set_option maxRecDepth 100000 in
theorem spec_l26Motion.calls (k : Nat) (a0 : Int) (a1 : Int) (r1 : Int) (r2 : Bool) (r3 : Int) (r4 : Int) (r5 : Int) (r6 : Int) (r7 : Int) (r8 : Int) (w : World) (h : spec_l26Motion.f k a0 a1 = some (r1, r2, r3, r4, r5, r6, r7, r8)) :
    Calls Try.prog 93 #[.int .i64 a0, .int .i64 a1] w fun e w' => e = .returned (.agg #[.int .i64 r1, .bool r2, .int .i64 r3, .int .i64 r4, .int .i64 r5, .int .i64 r6, .int .i64 r7, .int .i64 r8]) ∧ Below w.heap.size w w' := by
  have hu118 := Try.underlying118
  have hu94 := Try.underlying94
  have HB := Aside0.mk (Below.refl w.heap.size w)
  have H : ((spec_l26Num.f (wrap64 (-a1))).bind fun bt161 => ((spec_l26Num.f (wrap64 (-a0))).bind fun bt164 => (if (Int.tmod a1 2) = 1 then ((spec_l26Num.f (wrap64 (a1 + 1))).bind fun bt168 => (spec_l26Motion.j0 k a0 a1 0 false bt168.1 bt168.2.1 bt168.2.2 bt164.1 bt164.2.1 bt164.2.2)) else (spec_l26Motion.j0 k a0 a1 0 false bt161.1 bt161.2.1 bt161.2.2 bt164.1 bt164.2.1 bt164.2.2)))) = some (r1, r2, r3, r4, r5, r6, r7, r8) := h
  clear h
  replace H := Option.bind_eq_some_iff.mp H
  obtain ⟨⟨t161, t162, t163⟩, A30, H⟩ := H
  replace H : ((spec_l26Num.f (wrap64 (-a0))).bind fun bt164 => (if (Int.tmod a1 2) = 1 then ((spec_l26Num.f (wrap64 (a1 + 1))).bind fun bt168 => (spec_l26Motion.j0 k a0 a1 0 false bt168.1 bt168.2.1 bt168.2.2 bt164.1 bt164.2.1 bt164.2.2)) else (spec_l26Motion.j0 k a0 a1 0 false t161 t162 t163 bt164.1 bt164.2.1 bt164.2.2))) = some (r1, r2, r3, r4, r5, r6, r7, r8) := H
  have A3 := Aside0.mk A30
  clear A30
  replace H := Option.bind_eq_some_iff.mp H
  obtain ⟨⟨t164, t165, t166⟩, A40, H⟩ := H
  replace H : (if (Int.tmod a1 2) = 1 then ((spec_l26Num.f (wrap64 (a1 + 1))).bind fun bt168 => (spec_l26Motion.j0 k a0 a1 0 false bt168.1 bt168.2.1 bt168.2.2 t164 t165 t166)) else (spec_l26Motion.j0 k a0 a1 0 false t161 t162 t163 t164 t165 t166)) = some (r1, r2, r3, r4, r5, r6, r7, r8) := H
  have A4 := Aside0.mk A40
  clear A40
  have HC5 := Aside0.mk H
  clear H
  go_enter Try.func93, Try.ntmps93
  go_upto_if 15 with (first | ((with_reducible refine gate_dst (N := 4) rfl ?_); refine bx #[.int .i64 0, .bool false, .int .i64 0, .int .i64 0, .int .i64 0, .int .i64 0, .int .i64 0, .int .i64 0] 118 ?_; intro gb160 hg w6 hbox hb; have BK160 := Aside0.mk hbox; have GW160 := bg hg; have GE160 := bg hg; replace HB := bs hb; clear hb hbox hg) | ((with_reducible refine gate_callee (f := 147) rfl ?_); refine gl (some 8) Try.func147 #[.int .i64 (wrap64 (-a1))] ?_; (with_reducible refine (spec_l26Num.calls (wrap64 (-a1)) t161 t162 t163 _ A3.out).mono ?_); rintro e w7 ⟨rfl, hb⟩; refine ⟨_, rfl, ?_⟩; replace BK160 := bb BK160 hb; replace HB := bs hb; (try clear hb); (try clear hb2); (try clear hk); (try clear hi)) | ((with_reducible refine gate_callee (f := 147) rfl ?_); refine gl (some 11) Try.func147 #[.int .i64 (wrap64 (-a0))] ?_; (with_reducible refine (spec_l26Num.calls (wrap64 (-a0)) t164 t165 t166 _ A4.out).mono ?_); rintro e w8 ⟨rfl, hb⟩; refine ⟨_, rfl, ?_⟩; replace BK160 := bb BK160 hb; replace HB := bs hb; (try clear hb); (try clear hb2); (try clear hk); (try clear hi)) | ((with_reducible refine gate_dst (N := 5) rfl ?_); refine bx #[.int .i64 0, .bool false, .int .i64 0, .int .i64 0, .int .i64 0, .int .i64 0, .int .i64 0, .int .i64 0] 118 ?_; intro gb167 hg w9 hbox hb; have BK167 := Aside0.mk hbox; have GW167 := bg hg; have GE167 := bg hg; have NB160_167 := bl BK160 hg; have NB167_160 := bv BK160 hg; replace BK160 := bb BK160 hb; replace HB := bs hb; clear hb hbox hg; have hnb10 := NB167_160.out; have hnc10 := NB160_167.out; obtain ⟨z11_0, z11_1, z11_2, z11_3, z11_4, z11_5, z11_6, z11_7, y11_0, y11_1, y11_2, y11_3, y11_4, y11_5, y11_6, y11_7⟩ := bq8 BK167))
  (try simp only [Act.put, List.setIfInBounds_toArray, List.set_cons_zero, List.set_cons_succ])
  go_cut [] (fun wc => ∃ (kq : Nat) (x168002_4 : Int) (x168003_4 : Int) (x168004_4 : Int), Aside0 (spec_l26Motion.j0 kq a0 a1 0 false x168002_4 x168003_4 x168004_4 t164 t165 t166 = some (r1, r2, r3, r4, r5, r6, r7, r8)) ∧ Aside0 (kq ≤ k) ∧ Aside0 (wc.heap[gb160]? = some (.cells #[.int .i64 0, .bool false, .int .i64 0, .int .i64 0, .int .i64 0, .int .i64 0, .int .i64 0, .int .i64 0] 118 (0, 0))) ∧ Aside0 (wc.heap[gb167]? = some (.cells #[.int .i64 0, .bool false, .int .i64 x168002_4, .int .i64 x168003_4, .int .i64 x168004_4, .int .i64 t164, .int .i64 t165, .int .i64 t166] 118 (0, 0))) ∧ Aside0 (Below w.heap.size w wc))
  case first =>
    have H := HC5.out
    clear HC5
    by_cases c12 : (Int.tmod a1 2) = 1
    · rw [if_pos c12] at H
      have c12b0 : ((Int.tmod a1 2) == 1) = true := beq_iff_eq.mpr c12
      have c12b1 : ((Int.tmod a1 2) != 1) = false := bne_eq_false_iff_eq.mpr c12
      clear c12
      (first | rw [c12b0] | (simp only [i64_w, i32_w]; rw [c12b0]) | skip)
      replace H := Option.bind_eq_some_iff.mp H
      obtain ⟨⟨t168, t169, t170⟩, A130, H⟩ := H
      replace H : (spec_l26Motion.j0 k a0 a1 0 false t168 t169 t170 t164 t165 t166) = some (r1, r2, r3, r4, r5, r6, r7, r8) := H
      have A13 := Aside0.mk A130
      clear A130
      have H' := Aside0.mk H
      clear H
      go_wp2_with (first | ((with_reducible refine gate_callee (f := 147) rfl ?_); refine gl (some 18) Try.func147 #[.int .i64 (wrap64 (a1 + 1))] ?_; (with_reducible refine (spec_l26Num.calls (wrap64 (a1 + 1)) t168 t169 t170 _ A13.out).mono ?_); rintro e w14 ⟨rfl, hb⟩; refine ⟨_, rfl, ?_⟩; replace BK160 := Aside0.mk (blk_below (g := gb160) (o := .cells #[.int .i64 0, .bool false, .int .i64 0, .int .i64 0, .int .i64 0, .int .i64 0, .int .i64 0, .int .i64 0] 118 (0, 0)) (by refine bk (h := ?_); refine blk_far ?_ NB160_167.out _; refine bk (h := ?_); refine blk_far ?_ NB160_167.out _; refine bk (h := ?_); refine blk_far ?_ NB160_167.out _; refine bk (h := ?_); refine blk_far ?_ NB160_167.out _; refine bk (h := ?_); refine blk_far ?_ NB160_167.out _; refine bk (h := ?_); refine blk_far ?_ NB160_167.out _; refine bk (h := ?_); refine blk_far ?_ NB160_167.out _; refine bk (h := ?_); refine blk_far ?_ NB160_167.out _; refine bk (h := ?_); exact BK160.out) hb); replace BK167 := Aside0.mk (blk_below (g := gb167) (o := .cells #[.int .i64 0, .bool false, .int .i64 t161, .int .i64 t162, .int .i64 t163, .int .i64 t164, .int .i64 t165, .int .i64 t166] 118 (0, 0)) (by refine bk (h := ?_); refine blk_put (cs := #[.int .i64 0, .bool false, .int .i64 t161, .int .i64 t162, .int .i64 t163, .int .i64 t164, .int .i64 t165, .int .i64 0]) ?_ 7 _ rfl; refine bk (h := ?_); refine blk_put (cs := #[.int .i64 0, .bool false, .int .i64 t161, .int .i64 t162, .int .i64 t163, .int .i64 t164, .int .i64 0, .int .i64 0]) ?_ 6 _ rfl; refine bk (h := ?_); refine blk_put (cs := #[.int .i64 0, .bool false, .int .i64 t161, .int .i64 t162, .int .i64 t163, .int .i64 0, .int .i64 0, .int .i64 0]) ?_ 5 _ rfl; refine bk (h := ?_); refine blk_put (cs := #[.int .i64 0, .bool false, .int .i64 t161, .int .i64 t162, .int .i64 0, .int .i64 0, .int .i64 0, .int .i64 0]) ?_ 4 _ rfl; refine bk (h := ?_); refine blk_put (cs := #[.int .i64 0, .bool false, .int .i64 t161, .int .i64 0, .int .i64 0, .int .i64 0, .int .i64 0, .int .i64 0]) ?_ 3 _ rfl; refine bk (h := ?_); refine blk_put (cs := #[.int .i64 0, .bool false, .int .i64 0, .int .i64 0, .int .i64 0, .int .i64 0, .int .i64 0, .int .i64 0]) ?_ 2 _ rfl; refine bk (h := ?_); refine blk_put (cs := #[.int .i64 0, .bool false, .int .i64 0, .int .i64 0, .int .i64 0, .int .i64 0, .int .i64 0, .int .i64 0]) ?_ 1 _ rfl; refine bk (h := ?_); refine blk_put (cs := #[.int .i64 0, .bool false, .int .i64 0, .int .i64 0, .int .i64 0, .int .i64 0, .int .i64 0, .int .i64 0]) ?_ 0 _ rfl; refine bk (h := ?_); exact BK167.out) hb); replace HB := bs hb; (try clear hb); (try clear hb2); (try clear hk); (try clear hi); have hnb15 := NB167_160.out; have hnc15 := NB160_167.out; obtain ⟨z16_0, z16_1, z16_2, z16_3, z16_4, z16_5, z16_6, z16_7, y16_0, y16_1, y16_2, y16_3, y16_4, y16_5, y16_6, y16_7⟩ := bq8 BK167))
      go_meet
      case rel => exact ⟨_, (t168), (t169), (t170), H', ⟨by first | omega | exact Nat.le_refl _⟩, ⟨by refine bk (h := ?_); refine blk_far ?_ NB160_167.out _; refine bk (h := ?_); refine blk_far ?_ NB160_167.out _; refine bk (h := ?_); refine blk_far ?_ NB160_167.out _; refine bk (h := ?_); exact BK160.out⟩, ⟨by refine bk (h := ?_); refine blk_put (cs := #[.int .i64 0, .bool false, .int .i64 t168, .int .i64 t169, .int .i64 t163, .int .i64 t164, .int .i64 t165, .int .i64 t166]) ?_ 4 _ rfl; refine bk (h := ?_); refine blk_put (cs := #[.int .i64 0, .bool false, .int .i64 t168, .int .i64 t162, .int .i64 t163, .int .i64 t164, .int .i64 t165, .int .i64 t166]) ?_ 3 _ rfl; refine bk (h := ?_); refine blk_put (cs := #[.int .i64 0, .bool false, .int .i64 t161, .int .i64 t162, .int .i64 t163, .int .i64 t164, .int .i64 t165, .int .i64 t166]) ?_ 2 _ rfl; refine bk (h := ?_); exact BK167.out⟩, ⟨bw⟩⟩
    · rw [if_neg c12] at H
      have c12b0 : ((Int.tmod a1 2) == 1) = false := beq_eq_false_iff_ne.mpr c12
      have c12b1 : ((Int.tmod a1 2) != 1) = true := bne_iff_ne.mpr c12
      (first | rw [c12b0] | (simp only [i64_w, i32_w]; rw [c12b0]) | skip)
      have H' := Aside0.mk H
      clear H
      go_wp2
      go_meet
      case rel => exact ⟨_, (t161), (t162), (t163), H', ⟨by first | omega | exact Nat.le_refl _⟩, ⟨by refine bk (h := ?_); refine blk_far ?_ NB160_167.out _; refine bk (h := ?_); refine blk_far ?_ NB160_167.out _; refine bk (h := ?_); refine blk_far ?_ NB160_167.out _; refine bk (h := ?_); refine blk_far ?_ NB160_167.out _; refine bk (h := ?_); refine blk_far ?_ NB160_167.out _; refine bk (h := ?_); refine blk_far ?_ NB160_167.out _; refine bk (h := ?_); refine blk_far ?_ NB160_167.out _; refine bk (h := ?_); refine blk_far ?_ NB160_167.out _; refine bk (h := ?_); exact BK160.out⟩, ⟨by refine bk (h := ?_); refine blk_put (cs := #[.int .i64 0, .bool false, .int .i64 t161, .int .i64 t162, .int .i64 t163, .int .i64 t164, .int .i64 t165, .int .i64 0]) ?_ 7 _ rfl; refine bk (h := ?_); refine blk_put (cs := #[.int .i64 0, .bool false, .int .i64 t161, .int .i64 t162, .int .i64 t163, .int .i64 t164, .int .i64 0, .int .i64 0]) ?_ 6 _ rfl; refine bk (h := ?_); refine blk_put (cs := #[.int .i64 0, .bool false, .int .i64 t161, .int .i64 t162, .int .i64 t163, .int .i64 0, .int .i64 0, .int .i64 0]) ?_ 5 _ rfl; refine bk (h := ?_); refine blk_put (cs := #[.int .i64 0, .bool false, .int .i64 t161, .int .i64 t162, .int .i64 0, .int .i64 0, .int .i64 0, .int .i64 0]) ?_ 4 _ rfl; refine bk (h := ?_); refine blk_put (cs := #[.int .i64 0, .bool false, .int .i64 t161, .int .i64 0, .int .i64 0, .int .i64 0, .int .i64 0, .int .i64 0]) ?_ 3 _ rfl; refine bk (h := ?_); refine blk_put (cs := #[.int .i64 0, .bool false, .int .i64 0, .int .i64 0, .int .i64 0, .int .i64 0, .int .i64 0, .int .i64 0]) ?_ 2 _ rfl; refine bk (h := ?_); refine blk_put (cs := #[.int .i64 0, .bool false, .int .i64 0, .int .i64 0, .int .i64 0, .int .i64 0, .int .i64 0, .int .i64 0]) ?_ 1 _ rfl; refine bk (h := ?_); refine blk_put (cs := #[.int .i64 0, .bool false, .int .i64 0, .int .i64 0, .int .i64 0, .int .i64 0, .int .i64 0, .int .i64 0]) ?_ 0 _ rfl; refine bk (h := ?_); exact BK167.out⟩, ⟨bw⟩⟩
  case rest =>
    clear HC5
    try clear c1
    try clear p2
    try clear p6
    try clear c9
    try clear c10
    try clear c12
    try clear c12b0
    try clear c12b1
    try clear c14
    try clear c15
    try clear z11_0 z11_1 z11_2 z11_3 z11_4 z11_5 z11_6 z11_7 y11_0 y11_1 y11_2 y11_3 y11_4 y11_5 y11_6 y11_7
    try clear z16_0 z16_1 z16_2 z16_3 z16_4 z16_5 z16_6 z16_7 y16_0 y16_1 y16_2 y16_3 y16_4 y16_5 y16_6 y16_7
    obtain ⟨kq, x168002_4, x168003_4, x168004_4, HA, HJ4, BK160, BK167, HB⟩ := hcut
    cases kq with
    | zero => exact absurd HA.out (by simp [spec_l26Motion.j0])
    | succ kj4 =>
      have H := HA.out
      clear HA
      simp only [spec_l26Motion.j0] at H
      have HC17 := Aside0.mk H
      clear H
      go_upto_if 22 with (fail)
      go_cut [] (fun wc => ∃ (kq : Nat) (x168005_16 : Int) (x168006_16 : Int) (x168007_16 : Int), Aside0 (spec_l26Motion.j1 kq a0 a1 0 false x168002_4 x168003_4 x168004_4 x168005_16 x168006_16 x168007_16 = some (r1, r2, r3, r4, r5, r6, r7, r8)) ∧ Aside0 (kq ≤ kj4) ∧ Aside0 (wc.heap[gb160]? = some (.cells #[.int .i64 0, .bool false, .int .i64 0, .int .i64 0, .int .i64 0, .int .i64 0, .int .i64 0, .int .i64 0] 118 (0, 0))) ∧ Aside0 (wc.heap[gb167]? = some (.cells #[.int .i64 0, .bool false, .int .i64 x168002_4, .int .i64 x168003_4, .int .i64 x168004_4, .int .i64 x168005_16, .int .i64 x168006_16, .int .i64 x168007_16] 118 (0, 0))) ∧ Aside0 (Below w.heap.size w wc))
      case first =>
        have H := HC17.out
        clear HC17
        by_cases c18 : (Int.tmod a0 2) = 1
        · rw [if_pos c18] at H
          have c18b0 : ((Int.tmod a0 2) == 1) = true := beq_iff_eq.mpr c18
          have c18b1 : ((Int.tmod a0 2) != 1) = false := bne_eq_false_iff_eq.mpr c18
          clear c18
          (first | rw [c18b0] | (simp only [i64_w, i32_w]; rw [c18b0]) | skip)
          replace H := Option.bind_eq_some_iff.mp H
          obtain ⟨⟨t171, t172, t173⟩, A190, H⟩ := H
          replace H : (spec_l26Motion.j1 kj4 a0 a1 0 false x168002_4 x168003_4 x168004_4 t171 t172 t173) = some (r1, r2, r3, r4, r5, r6, r7, r8) := H
          have A19 := Aside0.mk A190
          clear A190
          have H' := Aside0.mk H
          clear H
          go_wp2_with (first | ((with_reducible refine gate_callee (f := 147) rfl ?_); refine gl (some 25) Try.func147 #[.int .i64 (wrap64 (a0 + 1))] ?_; (with_reducible refine (spec_l26Num.calls (wrap64 (a0 + 1)) t171 t172 t173 _ A19.out).mono ?_); rintro e w20 ⟨rfl, hb⟩; refine ⟨_, rfl, ?_⟩; replace BK160 := bb BK160 hb; replace BK167 := bb BK167 hb; replace HB := bs hb; (try clear hb); (try clear hb2); (try clear hk); (try clear hi); have hnb21 := NB167_160.out; have hnc21 := NB160_167.out; obtain ⟨z22_0, z22_1, z22_2, z22_3, z22_4, z22_5, z22_6, z22_7, y22_0, y22_1, y22_2, y22_3, y22_4, y22_5, y22_6, y22_7⟩ := bq8 BK167))
          go_meet
          case rel => exact ⟨_, (t171), (t172), (t173), H', ⟨by have := HJ4.out; first | omega | exact Nat.le_refl _⟩, ⟨by refine bk (h := ?_); refine blk_far ?_ NB160_167.out _; refine bk (h := ?_); refine blk_far ?_ NB160_167.out _; refine bk (h := ?_); refine blk_far ?_ NB160_167.out _; refine bk (h := ?_); exact BK160.out⟩, ⟨by refine bk (h := ?_); refine blk_put (cs := #[.int .i64 0, .bool false, .int .i64 x168002_4, .int .i64 x168003_4, .int .i64 x168004_4, .int .i64 t171, .int .i64 t172, .int .i64 t166]) ?_ 7 _ rfl; refine bk (h := ?_); refine blk_put (cs := #[.int .i64 0, .bool false, .int .i64 x168002_4, .int .i64 x168003_4, .int .i64 x168004_4, .int .i64 t171, .int .i64 t165, .int .i64 t166]) ?_ 6 _ rfl; refine bk (h := ?_); refine blk_put (cs := #[.int .i64 0, .bool false, .int .i64 x168002_4, .int .i64 x168003_4, .int .i64 x168004_4, .int .i64 t164, .int .i64 t165, .int .i64 t166]) ?_ 5 _ rfl; refine bk (h := ?_); exact BK167.out⟩, ⟨bw⟩⟩
        · rw [if_neg c18] at H
          have c18b0 : ((Int.tmod a0 2) == 1) = false := beq_eq_false_iff_ne.mpr c18
          have c18b1 : ((Int.tmod a0 2) != 1) = true := bne_iff_ne.mpr c18
          (first | rw [c18b0] | (simp only [i64_w, i32_w]; rw [c18b0]) | skip)
          have H' := Aside0.mk H
          clear H
          go_wp2
          go_meet
          case rel => exact ⟨_, (t164), (t165), (t166), H', ⟨by have := HJ4.out; first | omega | exact Nat.le_refl _⟩, ⟨by refine bk (h := ?_); exact BK160.out⟩, ⟨by refine bk (h := ?_); exact BK167.out⟩, ⟨bw⟩⟩
      case rest =>
        clear HC17
        try clear c1
        try clear c2
        try clear p2
        try clear p6
        try clear c9
        try clear c10
        try clear c12
        try clear c12b0
        try clear c12b1
        try clear c14
        try clear c15
        try clear c18
        try clear c18b0
        try clear c18b1
        try clear c21
        try clear z11_0 z11_1 z11_2 z11_3 z11_4 z11_5 z11_6 z11_7 y11_0 y11_1 y11_2 y11_3 y11_4 y11_5 y11_6 y11_7
        try clear z16_0 z16_1 z16_2 z16_3 z16_4 z16_5 z16_6 z16_7 y16_0 y16_1 y16_2 y16_3 y16_4 y16_5 y16_6 y16_7
        try clear z22_0 z22_1 z22_2 z22_3 z22_4 z22_5 z22_6 z22_7 y22_0 y22_1 y22_2 y22_3 y22_4 y22_5 y22_6 y22_7
        try clear p2
        try clear p6
        obtain ⟨kq, x168005_16, x168006_16, x168007_16, HA, HJ16, BK160, BK167, HB⟩ := hcut
        cases kq with
        | zero => exact absurd HA.out (by simp [spec_l26Motion.j1])
        | succ kj16 =>
          have H := HA.out
          clear HA
          simp only [spec_l26Motion.j1] at H
          by_cases c23 : (Int.tmod a1 2) = 1
          · rw [if_pos c23] at H
            have c23b0 : ((Int.tmod a1 2) == 1) = true := beq_iff_eq.mpr c23
            have c23b1 : ((Int.tmod a1 2) != 1) = false := bne_eq_false_iff_eq.mpr c23
            clear c23
            simp only [Option.some.injEq, Prod.mk.injEq] at H
            obtain ⟨rfl, rfl, rfl, rfl, rfl, rfl, rfl, rfl⟩ := H
            have hnb24 := NB167_160.out
            have hnc24 := NB160_167.out
            obtain ⟨z25_0, z25_1, z25_2, z25_3, z25_4, z25_5, z25_6, z25_7, y25_0, y25_1, y25_2, y25_3, y25_4, y25_5, y25_6, y25_7⟩ := bq8 BK167
            obtain ⟨z26_0, z26_1, z26_2, z26_3, z26_4, z26_5, z26_6, z26_7, y26_0, y26_1, y26_2, y26_3, y26_4, y26_5, y26_6, y26_7⟩ := bq8 BK160
            go_wp2
            refine bodyPost_ret (results_cell_row rfl _ _ gb160 118 #[.int .i64 4, .bool ((Int.tmod (wrap64 (a1 + a0)) 2) == 1), .int .i64 x168002_4, .int .i64 x168003_4, .int .i64 x168004_4, .int .i64 x168005_16, .int .i64 x168006_16, .int .i64 x168007_16] (0, 0) _ rfl (by refine bk (h := ?_); refine blk_put (cs := #[.int .i64 4, .bool ((Int.tmod (wrap64 (a1 + a0)) 2) == 1), .int .i64 x168002_4, .int .i64 x168003_4, .int .i64 x168004_4, .int .i64 x168005_16, .int .i64 x168006_16, .int .i64 0]) ?_ 7 _ rfl; refine bk (h := ?_); refine blk_put (cs := #[.int .i64 4, .bool ((Int.tmod (wrap64 (a1 + a0)) 2) == 1), .int .i64 x168002_4, .int .i64 x168003_4, .int .i64 x168004_4, .int .i64 x168005_16, .int .i64 0, .int .i64 0]) ?_ 6 _ rfl; refine bk (h := ?_); refine blk_put (cs := #[.int .i64 4, .bool ((Int.tmod (wrap64 (a1 + a0)) 2) == 1), .int .i64 x168002_4, .int .i64 x168003_4, .int .i64 x168004_4, .int .i64 0, .int .i64 0, .int .i64 0]) ?_ 5 _ rfl; refine bk (h := ?_); refine blk_put (cs := #[.int .i64 4, .bool ((Int.tmod (wrap64 (a1 + a0)) 2) == 1), .int .i64 x168002_4, .int .i64 x168003_4, .int .i64 0, .int .i64 0, .int .i64 0, .int .i64 0]) ?_ 4 _ rfl; refine bk (h := ?_); refine blk_put (cs := #[.int .i64 4, .bool ((Int.tmod (wrap64 (a1 + a0)) 2) == 1), .int .i64 x168002_4, .int .i64 0, .int .i64 0, .int .i64 0, .int .i64 0, .int .i64 0]) ?_ 3 _ rfl; refine bk (h := ?_); refine blk_put (cs := #[.int .i64 4, .bool ((Int.tmod (wrap64 (a1 + a0)) 2) == 1), .int .i64 0, .int .i64 0, .int .i64 0, .int .i64 0, .int .i64 0, .int .i64 0]) ?_ 2 _ rfl; refine bk (h := ?_); refine blk_put (cs := #[.int .i64 4, .bool false, .int .i64 0, .int .i64 0, .int .i64 0, .int .i64 0, .int .i64 0, .int .i64 0]) ?_ 1 _ rfl; refine bk (h := ?_); refine blk_put (cs := #[.int .i64 0, .bool false, .int .i64 0, .int .i64 0, .int .i64 0, .int .i64 0, .int .i64 0, .int .i64 0]) ?_ 0 _ rfl; refine bk (h := ?_); refine blk_far ?_ NB160_167.out _; refine bk (h := ?_); refine blk_far ?_ NB160_167.out _; refine bk (h := ?_); exact BK160.out) Try.underlying118 rfl (by kernel_rfl)) rfl ?_
            exact ⟨er, bw⟩
          · rw [if_neg c23] at H
            have c23b0 : ((Int.tmod a1 2) == 1) = false := beq_eq_false_iff_ne.mpr c23
            have c23b1 : ((Int.tmod a1 2) != 1) = true := bne_iff_ne.mpr c23
            simp only [Option.some.injEq, Prod.mk.injEq] at H
            obtain ⟨rfl, rfl, rfl, rfl, rfl, rfl, rfl, rfl⟩ := H
            have hnb27 := NB167_160.out
            have hnc27 := NB160_167.out
            obtain ⟨z28_0, z28_1, z28_2, z28_3, z28_4, z28_5, z28_6, z28_7, y28_0, y28_1, y28_2, y28_3, y28_4, y28_5, y28_6, y28_7⟩ := bq8 BK167
            obtain ⟨z29_0, z29_1, z29_2, z29_3, z29_4, z29_5, z29_6, z29_7, y29_0, y29_1, y29_2, y29_3, y29_4, y29_5, y29_6, y29_7⟩ := bq8 BK160
            go_wp2
            refine bodyPost_ret (results_cell_row rfl _ _ gb160 118 #[.int .i64 0, .bool ((Int.tmod (wrap64 (a1 + a0)) 2) == 1), .int .i64 x168002_4, .int .i64 x168003_4, .int .i64 x168004_4, .int .i64 x168005_16, .int .i64 x168006_16, .int .i64 x168007_16] (0, 0) _ rfl (by refine bk (h := ?_); refine blk_put (cs := #[.int .i64 0, .bool ((Int.tmod (wrap64 (a1 + a0)) 2) == 1), .int .i64 x168002_4, .int .i64 x168003_4, .int .i64 x168004_4, .int .i64 x168005_16, .int .i64 x168006_16, .int .i64 0]) ?_ 7 _ rfl; refine bk (h := ?_); refine blk_put (cs := #[.int .i64 0, .bool ((Int.tmod (wrap64 (a1 + a0)) 2) == 1), .int .i64 x168002_4, .int .i64 x168003_4, .int .i64 x168004_4, .int .i64 x168005_16, .int .i64 0, .int .i64 0]) ?_ 6 _ rfl; refine bk (h := ?_); refine blk_put (cs := #[.int .i64 0, .bool ((Int.tmod (wrap64 (a1 + a0)) 2) == 1), .int .i64 x168002_4, .int .i64 x168003_4, .int .i64 x168004_4, .int .i64 0, .int .i64 0, .int .i64 0]) ?_ 5 _ rfl; refine bk (h := ?_); refine blk_put (cs := #[.int .i64 0, .bool ((Int.tmod (wrap64 (a1 + a0)) 2) == 1), .int .i64 x168002_4, .int .i64 x168003_4, .int .i64 0, .int .i64 0, .int .i64 0, .int .i64 0]) ?_ 4 _ rfl; refine bk (h := ?_); refine blk_put (cs := #[.int .i64 0, .bool ((Int.tmod (wrap64 (a1 + a0)) 2) == 1), .int .i64 x168002_4, .int .i64 0, .int .i64 0, .int .i64 0, .int .i64 0, .int .i64 0]) ?_ 3 _ rfl; refine bk (h := ?_); refine blk_put (cs := #[.int .i64 0, .bool ((Int.tmod (wrap64 (a1 + a0)) 2) == 1), .int .i64 0, .int .i64 0, .int .i64 0, .int .i64 0, .int .i64 0, .int .i64 0]) ?_ 2 _ rfl; refine bk (h := ?_); refine blk_put (cs := #[.int .i64 0, .bool false, .int .i64 0, .int .i64 0, .int .i64 0, .int .i64 0, .int .i64 0, .int .i64 0]) ?_ 1 _ rfl; refine bk (h := ?_); refine blk_put (cs := #[.int .i64 0, .bool false, .int .i64 0, .int .i64 0, .int .i64 0, .int .i64 0, .int .i64 0, .int .i64 0]) ?_ 0 _ rfl; refine bk (h := ?_); refine blk_far ?_ NB160_167.out _; refine bk (h := ?_); exact BK160.out) Try.underlying118 rfl (by kernel_rfl)) rfl ?_
            exact ⟨er, bw⟩

end Go.Proofs.Yteadienaeapaeaa.PT
