-- Made by a program of this session (myprint.py) out of the translation.
import Derived.Test.YteadienaeapaeaaDoorZprPWx0
import Derived.Test.YteadienaeapaeaaDoorZprPWx11
import Derived.Test.YteadienaeapaeaaDoorZprShort
namespace Go.Proofs.YteadienaeapaeaaDoor.PW
open Go.Proofs.YteadienaeapaeaaDoor.Short
open Go.Proofs.YteadienaeapaeaaDoor.Dyn
open Go.RowKit Go.Proofs.YteadienaeapaeaaDoorW.PrintWords Go.Proofs.YteadienaeapaeaaDoorW.PrintLast Go.Proofs.YteadienaeapaeaaDoorW.PrintMore
attribute [local go_sem] max2_int min2_int max_two min_two max_three min_three max_four min_four   -- for this text's walks alone
set_option linter.unusedVariables false
set_option linter.unusedSimpArgs false

/-! ### impl_FoldCount: function 21 -/
mutual
def impl_FoldCount.l0 : Nat → List Bool → List (S34) → Int → Int → Option (Int)
  | 0, _, _, _, _ => none
  | k + 1, x3, x12, x13, x14 => if x14 < x13 then (if 0 ≤ x14 then (if x14 < (x12.length : Int) then ((impl_Step_isFold.f ((rd_T34 x12 x14).f0) ((rd_T34 x12 x14).f1) ((rd_T34 x12 x14).f2.f0) ((rd_T34 x12 x14).f2.f1.f0) ((rd_T34 x12 x14).f2.f1.f1) ((rd_T34 x12 x14).f2.f1.f2) ((rd_T34 x12 x14).f3) ((rd_T34 x12 x14).f4) ((rd_T34 x12 x14).f5)).bind fun t211 => (if t211 = true then (impl_FoldCount.j1 k x3 x12 x13 x14 true ((rd_T34 x12 x14).f0) ((rd_T34 x12 x14).f1) ((rd_T34 x12 x14).f2.f0) ((rd_T34 x12 x14).f2.f1.f0) ((rd_T34 x12 x14).f2.f1.f1) ((rd_T34 x12 x14).f2.f1.f2) ((rd_T34 x12 x14).f3) ((rd_T34 x12 x14).f4) ((rd_T34 x12 x14).f5)) else (impl_FoldCount.j1 k x3 x12 x13 x14 (((rd_T34 x12 x14).f0) == 3) ((rd_T34 x12 x14).f0) ((rd_T34 x12 x14).f1) ((rd_T34 x12 x14).f2.f0) ((rd_T34 x12 x14).f2.f1.f0) ((rd_T34 x12 x14).f2.f1.f1) ((rd_T34 x12 x14).f2.f1.f2) ((rd_T34 x12 x14).f3) ((rd_T34 x12 x14).f4) ((rd_T34 x12 x14).f5)))) else (none)) else (none)) else (impl_FoldCount.l1 k 0 x3 (x3.length : Int) 0)
def impl_FoldCount.j1 : Nat → List Bool → List (S34) → Int → Int → Bool → Int → ByteArray → Int → Int → Int → Int → Int → Int → Bool → Option (Int)
  | 0, _, _, _, _, _, _, _, _, _, _, _, _, _, _ => none
  | k + 1, x3, x12, x13, x14, x18, x211000, x211001, x211002, x211003, x211004, x211005, x211006, x211007, x211008 => if x18 = true then ((impl_Step_isFold.f x211000 x211001 x211002 x211003 x211004 x211005 x211006 x211007 x211008).bind fun t212 => (if x3.length < 140737488355328 then (impl_FoldCount.l0 k (x3 ++ [t212]) x12 x13 (wrap64 (x14 + 1))) else (none))) else (if x211000 = 5 then (impl_FoldCount.j2 k x3 x12 x13 x14 (decide ((x3.length : Int) > 0))) else (impl_FoldCount.j2 k x3 x12 x13 x14 false))
def impl_FoldCount.j2 : Nat → List Bool → List (S34) → Int → Int → Bool → Option (Int)
  | 0, _, _, _, _, _ => none
  | k + 1, x3, x12, x13, x14, x31 => if x31 = true then (if 0 ≤ (wrap64 ((x3.length : Int) - 1)) then (if (wrap64 ((x3.length : Int) - 1)) ≤ (x3.length : Int) then (impl_FoldCount.l0 k (x3.take ((wrap64 ((x3.length : Int) - 1)) : Int).toNat) x12 x13 (wrap64 (x14 + 1))) else (none)) else (none)) else (impl_FoldCount.l0 k x3 x12 x13 (wrap64 (x14 + 1)))
def impl_FoldCount.l1 : Nat → Int → List Bool → Int → Int → Option (Int)
  | 0, _, _, _, _ => none
  | k + 1, x6, x46, x47, x48 => if x48 < x47 then (if 0 ≤ x48 then (if x48 < (x46.length : Int) then (if rdOf false x46 x48 = true then (impl_FoldCount.l1 k (wrap64 (x6 + 1)) x46 x47 (wrap64 (x48 + 1))) else (impl_FoldCount.l1 k x6 x46 x47 (wrap64 (x48 + 1)))) else (none)) else (none)) else (some x6)
end
def impl_FoldCount.f (k : Nat) (l0 : List (S34)) : Option (Int) := (impl_ValidProgram.f k l0).bind fun t208 => (if t208 = true then (impl_FoldCount.l0 k ([] : List Bool) l0 (l0.length : Int) 0) else (some (-1)))
theorem impl_FoldCount.mono_l : ∀ k, (∀ y0 y1 y2 y3, LeO (impl_FoldCount.l0 k y0 y1 y2 y3) (impl_FoldCount.l0 (k + 1) y0 y1 y2 y3)) ∧ (∀ y0 y1 y2 y3 y4 y5 y6 y7 y8 y9 y10 y11 y12 y13, LeO (impl_FoldCount.j1 k y0 y1 y2 y3 y4 y5 y6 y7 y8 y9 y10 y11 y12 y13) (impl_FoldCount.j1 (k + 1) y0 y1 y2 y3 y4 y5 y6 y7 y8 y9 y10 y11 y12 y13)) ∧ (∀ y0 y1 y2 y3 y4, LeO (impl_FoldCount.j2 k y0 y1 y2 y3 y4) (impl_FoldCount.j2 (k + 1) y0 y1 y2 y3 y4)) ∧ (∀ y0 y1 y2 y3, LeO (impl_FoldCount.l1 k y0 y1 y2 y3) (impl_FoldCount.l1 (k + 1) y0 y1 y2 y3))
  | 0 => ⟨fun _ _ _ _ r h => by simp [impl_FoldCount.l0] at h, fun _ _ _ _ _ _ _ _ _ _ _ _ _ _ r h => by simp [impl_FoldCount.j1] at h, fun _ _ _ _ _ r h => by simp [impl_FoldCount.j2] at h, fun _ _ _ _ r h => by simp [impl_FoldCount.l1] at h⟩
  | k + 1 => by
    obtain ⟨ih0, ih1, ih2, ih3⟩ := impl_FoldCount.mono_l k
    refine ⟨?_, ?_, ?_, ?_⟩
    · intro y0 y1 y2 y3
      unfold impl_FoldCount.l0
      repeat' first
      | (with_reducible exact ih0 _ _ _ _)
      | (with_reducible exact ih1 _ _ _ _ _ _ _ _ _ _ _ _ _ _)
      | (with_reducible exact ih2 _ _ _ _ _)
      | (with_reducible exact ih3 _ _ _ _)
      | (with_reducible exact impl_ValidProgram.mono _ _)
      | (with_reducible exact LeO.refl _)
      | (with_reducible exact LeO.none _)
      | (with_reducible refine LeO.ite ?_ ?_)
      | (with_reducible refine LeO.bind ?_ (fun _ => ?_))
      | exact ih0 _ _ _ _
      | exact ih1 _ _ _ _ _ _ _ _ _ _ _ _ _ _
      | exact ih2 _ _ _ _ _
      | exact ih3 _ _ _ _
      | exact impl_ValidProgram.mono _ _
      | exact LeO.none _
      | refine LeO.ite ?_ ?_
      | refine LeO.bind ?_ (fun _ => ?_)
    · intro y0 y1 y2 y3 y4 y5 y6 y7 y8 y9 y10 y11 y12 y13
      unfold impl_FoldCount.j1
      repeat' first
      | (with_reducible exact ih0 _ _ _ _)
      | (with_reducible exact ih1 _ _ _ _ _ _ _ _ _ _ _ _ _ _)
      | (with_reducible exact ih2 _ _ _ _ _)
      | (with_reducible exact ih3 _ _ _ _)
      | (with_reducible exact impl_ValidProgram.mono _ _)
      | (with_reducible exact LeO.refl _)
      | (with_reducible exact LeO.none _)
      | (with_reducible refine LeO.ite ?_ ?_)
      | (with_reducible refine LeO.bind ?_ (fun _ => ?_))
      | exact ih0 _ _ _ _
      | exact ih1 _ _ _ _ _ _ _ _ _ _ _ _ _ _
      | exact ih2 _ _ _ _ _
      | exact ih3 _ _ _ _
      | exact impl_ValidProgram.mono _ _
      | exact LeO.none _
      | refine LeO.ite ?_ ?_
      | refine LeO.bind ?_ (fun _ => ?_)
    · intro y0 y1 y2 y3 y4
      unfold impl_FoldCount.j2
      repeat' first
      | (with_reducible exact ih0 _ _ _ _)
      | (with_reducible exact ih1 _ _ _ _ _ _ _ _ _ _ _ _ _ _)
      | (with_reducible exact ih2 _ _ _ _ _)
      | (with_reducible exact ih3 _ _ _ _)
      | (with_reducible exact impl_ValidProgram.mono _ _)
      | (with_reducible exact LeO.refl _)
      | (with_reducible exact LeO.none _)
      | (with_reducible refine LeO.ite ?_ ?_)
      | (with_reducible refine LeO.bind ?_ (fun _ => ?_))
      | exact ih0 _ _ _ _
      | exact ih1 _ _ _ _ _ _ _ _ _ _ _ _ _ _
      | exact ih2 _ _ _ _ _
      | exact ih3 _ _ _ _
      | exact impl_ValidProgram.mono _ _
      | exact LeO.none _
      | refine LeO.ite ?_ ?_
      | refine LeO.bind ?_ (fun _ => ?_)
    · intro y0 y1 y2 y3
      unfold impl_FoldCount.l1
      repeat' first
      | (with_reducible exact ih0 _ _ _ _)
      | (with_reducible exact ih1 _ _ _ _ _ _ _ _ _ _ _ _ _ _)
      | (with_reducible exact ih2 _ _ _ _ _)
      | (with_reducible exact ih3 _ _ _ _)
      | (with_reducible exact impl_ValidProgram.mono _ _)
      | (with_reducible exact LeO.refl _)
      | (with_reducible exact LeO.none _)
      | (with_reducible refine LeO.ite ?_ ?_)
      | (with_reducible refine LeO.bind ?_ (fun _ => ?_))
      | exact ih0 _ _ _ _
      | exact ih1 _ _ _ _ _ _ _ _ _ _ _ _ _ _
      | exact ih2 _ _ _ _ _
      | exact ih3 _ _ _ _
      | exact impl_ValidProgram.mono _ _
      | exact LeO.none _
      | refine LeO.ite ?_ ?_
      | refine LeO.bind ?_ (fun _ => ?_)
theorem impl_FoldCount.mono : ∀ a0 k, LeO (impl_FoldCount.f k a0) (impl_FoldCount.f (k + 1) a0) := by
  intro a0 k
  obtain ⟨ih0, ih1, ih2, ih3⟩ := impl_FoldCount.mono_l k
  unfold impl_FoldCount.f
  repeat' first
      | (with_reducible exact ih0 _ _ _ _)
      | (with_reducible exact ih1 _ _ _ _ _ _ _ _ _ _ _ _ _ _)
      | (with_reducible exact ih2 _ _ _ _ _)
      | (with_reducible exact ih3 _ _ _ _)
      | (with_reducible exact impl_ValidProgram.mono _ _)
      | (with_reducible exact LeO.refl _)
      | (with_reducible exact LeO.none _)
      | (with_reducible refine LeO.ite ?_ ?_)
      | (with_reducible refine LeO.bind ?_ (fun _ => ?_))
      | exact ih0 _ _ _ _
      | exact ih1 _ _ _ _ _ _ _ _ _ _ _ _ _ _
      | exact ih2 _ _ _ _ _
      | exact ih3 _ _ _ _
      | exact impl_ValidProgram.mono _ _
      | exact LeO.none _
      | refine LeO.ite ?_ ?_
      | refine LeO.bind ?_ (fun _ => ?_)
set_option maxHeartbeats 8000000 in
set_option maxRecDepth 100000 in
theorem impl_FoldCount.calls (k : Nat) (A0 : Option Addr) (c0 : Nat) (l0 : List (S34)) (r : Int) (w : World) (hr0 : Kd.C k34 w A0 l0.length l0) (hc0 : l0.length ≤ c0) (h : impl_FoldCount.f k l0 = some r) :
    Calls Tryd.prog 21 #[.slice A0 l0.length c0] w fun e w' => e = .returned (.int .i64 r) ∧ Below w.heap.size w w' := by
  have hu34 := Tryd.underlying34
  have HR0 := Aside0.mk hr0
  have HC0 := Aside0.mk hc0
  clear hr0 hc0
  have HB := Aside0.mk (Below.refl w.heap.size w)
  have H : ((impl_ValidProgram.f k l0).bind fun t208 => (if t208 = true then (impl_FoldCount.l0 k ([] : List Bool) l0 (l0.length : Int) 0) else (some (-1)))) = some r := h
  clear h
  replace H := Option.bind_eq_some_iff.mp H
  obtain ⟨t208, A20, H⟩ := H
  replace H : (if t208 = true then (impl_FoldCount.l0 k ([] : List Bool) l0 (l0.length : Int) 0) else (some (-1))) = some r := H
  have A2 := Aside0.mk A20
  clear A20
  by_cases c3 : t208 = true
  · subst c3
    rw [if_pos rfl] at H
    have H' := Aside0.mk H
    clear H
    go_enter Tryd.func21, Tryd.ntmps21
    go_wp2_with (first | ((with_reducible refine gate_callee (f := 18) rfl ?_); refine gl (some 10) Tryd.func18 #[.slice A0 l0.length c0] ?_; (with_reducible refine (impl_ValidProgram.calls k _ _ l0 true _ ?side1 ?side2 A2.out).mono ?_); (case side1 => repeat (first | exact HR0.out | (with_reducible refine Kd.C_alloc ?_ _) | (with_reducible refine Kd.C_drewN ?_ _) | (with_reducible refine Kd.C_drew ?_))); (case side2 => exact HC0.out); rintro e w4 ⟨rfl, hb⟩; refine ⟨_, rfl, ?_⟩; replace HB := bs hb; (try clear hb); (try clear hb2); (try clear hk); (try clear hi)))
    go_loopg [3, 14] k (fun kq v3 v14 w' => ∃ (x3_1 : List Bool) (x14_1 : Int), v14 = .int .i64 x14_1 ∧ Aside0 (impl_FoldCount.l0 kq x3_1 l0 (l0.length : Int) x14_1 = some r) ∧ Aside0 (kq ≤ k) ∧ Aside0 (Kd.R Kd.bool 4 w' w.heap.size (fun _ => True) v3 x3_1) ∧ Aside0 (Below w.heap.size w w'))
    case atStart => exact ⟨(([] : List Bool)), (0), (by first | rfl | (simp; done) | (simp [*]; done)), H', ⟨Nat.le_refl _⟩, ⟨by first | exact Kd.R_nil _ _ _ _ _ | exact Kd.N_nil _ _ _ _ _ | exact Kd.V_nil _ _ _ _ _ | exact Kd.Q_nil _ _ _ _ _ | exact Kd.S_nil _ _ _ _ _⟩, ⟨bw⟩⟩
    case round =>
      clear H'
      try clear c1
      try clear c2
      try clear p2
      try clear c3
      obtain ⟨x3_1, x14_1, rfl, HA, HK1, HO_3, HB⟩ := hrel
      cases gk with
      | zero => exact absurd HA.out (by simp [impl_FoldCount.l0])
      | succ k1 =>
        have H := HA.out
        clear HA
        simp only [impl_FoldCount.l0] at H
        by_cases c5 : x14_1 < (l0.length : Int)
        · rw [if_pos c5] at H
          have c5b0 : decide (x14_1 < (l0.length : Int)) = true := decide_eq_true c5
          clear c5
          by_cases c6 : 0 ≤ x14_1
          · rw [if_pos c6] at H
            have c6b0 : decide (0 ≤ x14_1) = true := decide_eq_true c6
            clear c6
            by_cases c7 : x14_1 < (l0.length : Int)
            · rw [if_pos c7] at H
              have c7b0 : decide (x14_1 < (l0.length : Int)) = true := decide_eq_true c7
              clear c7
              have HC8 := Aside0.mk H
              clear H
              have p209 : 0 ≤ (x14_1 : Int) := od
              have q209 : x14_1 < (l0.length : Int) := od
              obtain ⟨ad209, e209, hx209_0, hx209_1, hx209_2, hx209_3, hx209_4, hx209_5, hx209_6, hx209_7, hx209_8⟩ := at_T34 HR0.out x14_1 p209 q209
              cases e209
              replace hx209_0 := bc hx209_0
              replace hx209_1 := bc hx209_1
              replace hx209_2 := bc hx209_2
              replace hx209_3 := bc hx209_3
              replace hx209_4 := bc hx209_4
              replace hx209_5 := bc hx209_5
              replace hx209_6 := bc hx209_6
              replace hx209_7 := bc hx209_7
              replace hx209_8 := bc hx209_8
              replace p209 := eq_true p209
              replace q209 := eq_true q209
              go_upto_region 7 with (first | ((with_reducible refine gate_dst (N := 5) rfl ?_); (try (refine gate_guard (by rfl) ?_; dsimp only)); refine bx #[.int .i64 0, .string (⟨#[]⟩ : ByteArray), .int .i64 0, .int .i64 0, .int .i64 0, .int .i64 0, .int .i64 0, .int .i64 0, .bool false] 34 ?_; intro gb210 hg w9 hbox hb; have BK210 := Aside0.mk hbox; have GW210 := bg hg; have GE210 := bg hg; replace HO_3 := Aside0.mk (Kd.R_below (ra (h := HO_3.out)) hb); replace HB := bs hb; clear hb hbox hg; obtain ⟨z10_0, z10_1, z10_2, z10_3, z10_4, z10_5, z10_6, z10_7, z10_8, y10_0, y10_1, y10_2, y10_3, y10_4, y10_5, y10_6, y10_7, y10_8⟩ := bq9 BK210))
              (try simp only [Act.put, List.setIfInBounds_toArray, List.set_cons_zero, List.set_cons_succ])
              go_cut [18] (fun v18 wc => ∃ (kq : Nat) (x18_7 : Bool), v18 = .bool x18_7 ∧ Aside0 (impl_FoldCount.j1 kq x3_1 l0 (l0.length : Int) x14_1 x18_7 ((rd_T34 l0 x14_1).f0) ((rd_T34 l0 x14_1).f1) ((rd_T34 l0 x14_1).f2.f0) ((rd_T34 l0 x14_1).f2.f1.f0) ((rd_T34 l0 x14_1).f2.f1.f1) ((rd_T34 l0 x14_1).f2.f1.f2) ((rd_T34 l0 x14_1).f3) ((rd_T34 l0 x14_1).f4) ((rd_T34 l0 x14_1).f5) = some r) ∧ Aside0 (kq ≤ k1) ∧ Aside0 (Kd.R Kd.bool 4 wc w.heap.size (fun _ => True) u3 x3_1) ∧ Aside0 (wc.heap[gb210]? = some (.cells #[.int .i64 ((rd_T34 l0 x14_1).f0), .string ((rd_T34 l0 x14_1).f1), .int .i64 ((rd_T34 l0 x14_1).f2.f0), .int .i64 ((rd_T34 l0 x14_1).f2.f1.f0), .int .i64 ((rd_T34 l0 x14_1).f2.f1.f1), .int .i64 ((rd_T34 l0 x14_1).f2.f1.f2), .int .i64 ((rd_T34 l0 x14_1).f3), .int .i64 ((rd_T34 l0 x14_1).f4), .bool ((rd_T34 l0 x14_1).f5)] 34 (0, 0))) ∧ Aside0 (Below w.heap.size w wc))
              case first =>
                have H := HC8.out
                clear HC8
                replace H := Option.bind_eq_some_iff.mp H
                obtain ⟨t211, A110, H⟩ := H
                replace H : (if t211 = true then (impl_FoldCount.j1 k1 x3_1 l0 (l0.length : Int) x14_1 true ((rd_T34 l0 x14_1).f0) ((rd_T34 l0 x14_1).f1) ((rd_T34 l0 x14_1).f2.f0) ((rd_T34 l0 x14_1).f2.f1.f0) ((rd_T34 l0 x14_1).f2.f1.f1) ((rd_T34 l0 x14_1).f2.f1.f2) ((rd_T34 l0 x14_1).f3) ((rd_T34 l0 x14_1).f4) ((rd_T34 l0 x14_1).f5)) else (impl_FoldCount.j1 k1 x3_1 l0 (l0.length : Int) x14_1 (((rd_T34 l0 x14_1).f0) == 3) ((rd_T34 l0 x14_1).f0) ((rd_T34 l0 x14_1).f1) ((rd_T34 l0 x14_1).f2.f0) ((rd_T34 l0 x14_1).f2.f1.f0) ((rd_T34 l0 x14_1).f2.f1.f1) ((rd_T34 l0 x14_1).f2.f1.f2) ((rd_T34 l0 x14_1).f3) ((rd_T34 l0 x14_1).f4) ((rd_T34 l0 x14_1).f5))) = some r := H
                have A11 := Aside0.mk A110
                clear A110
                by_cases c12 : t211 = true
                · subst c12
                  rw [if_pos rfl] at H
                  have H' := Aside0.mk H
                  clear H
                  obtain ⟨z13_0, z13_1, z13_2, z13_3, z13_4, z13_5, z13_6, z13_7, z13_8, y13_0, y13_1, y13_2, y13_3, y13_4, y13_5, y13_6, y13_7, y13_8⟩ := bq9 BK210
                  go_wp2_with (first | ((with_reducible refine gate_callee (f := 59) rfl ?_); refine gl (some 20) Tryd.func59 #[.agg #[.int .i64 ((rd_T34 l0 x14_1).f0), .string ((rd_T34 l0 x14_1).f1), .int .i64 ((rd_T34 l0 x14_1).f2.f0), .int .i64 ((rd_T34 l0 x14_1).f2.f1.f0), .int .i64 ((rd_T34 l0 x14_1).f2.f1.f1), .int .i64 ((rd_T34 l0 x14_1).f2.f1.f2), .int .i64 ((rd_T34 l0 x14_1).f3), .int .i64 ((rd_T34 l0 x14_1).f4), .bool ((rd_T34 l0 x14_1).f5)]] ?_; (with_reducible refine (impl_Step_isFold.calls ((rd_T34 l0 x14_1).f0) ((rd_T34 l0 x14_1).f1) ((rd_T34 l0 x14_1).f2.f0) ((rd_T34 l0 x14_1).f2.f1.f0) ((rd_T34 l0 x14_1).f2.f1.f1) ((rd_T34 l0 x14_1).f2.f1.f2) ((rd_T34 l0 x14_1).f3) ((rd_T34 l0 x14_1).f4) ((rd_T34 l0 x14_1).f5) true _ A11.out).mono ?_); rintro e w14 ⟨rfl, hb⟩; refine ⟨_, rfl, ?_⟩; replace HO_3 := Aside0.mk (Kd.R_below (by refine ra (h := ?_); exact (Kd.R_mono (Kd.R_far (p := ⟨gb210, 8, none⟩) (Kd.R_far (p := ⟨gb210, 7, none⟩) (Kd.R_far (p := ⟨gb210, 6, none⟩) (Kd.R_far (p := ⟨gb210, 5, none⟩) (Kd.R_far (p := ⟨gb210, 4, none⟩) (Kd.R_far (p := ⟨gb210, 3, none⟩) (Kd.R_far (p := ⟨gb210, 2, none⟩) (Kd.R_far (p := ⟨gb210, 1, none⟩) (Kd.R_far (p := ⟨gb210, 0, none⟩) (Kd.R_types HO_3.out BK210.out (by decide)) (fun _ hk => hk.2) (.int .i64 ((rd_T34 l0 x14_1).f0))) (fun _ hk => hk.2) (.string ((rd_T34 l0 x14_1).f1))) (fun _ hk => hk.2) (.int .i64 ((rd_T34 l0 x14_1).f2.f0))) (fun _ hk => hk.2) (.int .i64 ((rd_T34 l0 x14_1).f2.f1.f0))) (fun _ hk => hk.2) (.int .i64 ((rd_T34 l0 x14_1).f2.f1.f1))) (fun _ hk => hk.2) (.int .i64 ((rd_T34 l0 x14_1).f2.f1.f2))) (fun _ hk => hk.2) (.int .i64 ((rd_T34 l0 x14_1).f3))) (fun _ hk => hk.2) (.int .i64 ((rd_T34 l0 x14_1).f4))) (fun _ hk => hk.2) (.bool ((rd_T34 l0 x14_1).f5))) (fun _ h_ => h_.1))) hb); replace BK210 := Aside0.mk (blk_below (g := gb210) (o := .cells #[.int .i64 ((rd_T34 l0 x14_1).f0), .string ((rd_T34 l0 x14_1).f1), .int .i64 ((rd_T34 l0 x14_1).f2.f0), .int .i64 ((rd_T34 l0 x14_1).f2.f1.f0), .int .i64 ((rd_T34 l0 x14_1).f2.f1.f1), .int .i64 ((rd_T34 l0 x14_1).f2.f1.f2), .int .i64 ((rd_T34 l0 x14_1).f3), .int .i64 ((rd_T34 l0 x14_1).f4), .bool ((rd_T34 l0 x14_1).f5)] 34 (0, 0)) (by refine bk (h := ?_); refine blk_put (cs := #[.int .i64 ((rd_T34 l0 x14_1).f0), .string ((rd_T34 l0 x14_1).f1), .int .i64 ((rd_T34 l0 x14_1).f2.f0), .int .i64 ((rd_T34 l0 x14_1).f2.f1.f0), .int .i64 ((rd_T34 l0 x14_1).f2.f1.f1), .int .i64 ((rd_T34 l0 x14_1).f2.f1.f2), .int .i64 ((rd_T34 l0 x14_1).f3), .int .i64 ((rd_T34 l0 x14_1).f4), .bool false]) ?_ 8 _ rfl; refine bk (h := ?_); refine blk_put (cs := #[.int .i64 ((rd_T34 l0 x14_1).f0), .string ((rd_T34 l0 x14_1).f1), .int .i64 ((rd_T34 l0 x14_1).f2.f0), .int .i64 ((rd_T34 l0 x14_1).f2.f1.f0), .int .i64 ((rd_T34 l0 x14_1).f2.f1.f1), .int .i64 ((rd_T34 l0 x14_1).f2.f1.f2), .int .i64 ((rd_T34 l0 x14_1).f3), .int .i64 0, .bool false]) ?_ 7 _ rfl; refine bk (h := ?_); refine blk_put (cs := #[.int .i64 ((rd_T34 l0 x14_1).f0), .string ((rd_T34 l0 x14_1).f1), .int .i64 ((rd_T34 l0 x14_1).f2.f0), .int .i64 ((rd_T34 l0 x14_1).f2.f1.f0), .int .i64 ((rd_T34 l0 x14_1).f2.f1.f1), .int .i64 ((rd_T34 l0 x14_1).f2.f1.f2), .int .i64 0, .int .i64 0, .bool false]) ?_ 6 _ rfl; refine bk (h := ?_); refine blk_put (cs := #[.int .i64 ((rd_T34 l0 x14_1).f0), .string ((rd_T34 l0 x14_1).f1), .int .i64 ((rd_T34 l0 x14_1).f2.f0), .int .i64 ((rd_T34 l0 x14_1).f2.f1.f0), .int .i64 ((rd_T34 l0 x14_1).f2.f1.f1), .int .i64 0, .int .i64 0, .int .i64 0, .bool false]) ?_ 5 _ rfl; refine bk (h := ?_); refine blk_put (cs := #[.int .i64 ((rd_T34 l0 x14_1).f0), .string ((rd_T34 l0 x14_1).f1), .int .i64 ((rd_T34 l0 x14_1).f2.f0), .int .i64 ((rd_T34 l0 x14_1).f2.f1.f0), .int .i64 0, .int .i64 0, .int .i64 0, .int .i64 0, .bool false]) ?_ 4 _ rfl; refine bk (h := ?_); refine blk_put (cs := #[.int .i64 ((rd_T34 l0 x14_1).f0), .string ((rd_T34 l0 x14_1).f1), .int .i64 ((rd_T34 l0 x14_1).f2.f0), .int .i64 0, .int .i64 0, .int .i64 0, .int .i64 0, .int .i64 0, .bool false]) ?_ 3 _ rfl; refine bk (h := ?_); refine blk_put (cs := #[.int .i64 ((rd_T34 l0 x14_1).f0), .string ((rd_T34 l0 x14_1).f1), .int .i64 0, .int .i64 0, .int .i64 0, .int .i64 0, .int .i64 0, .int .i64 0, .bool false]) ?_ 2 _ rfl; refine bk (h := ?_); refine blk_put (cs := #[.int .i64 ((rd_T34 l0 x14_1).f0), .string (⟨#[]⟩ : ByteArray), .int .i64 0, .int .i64 0, .int .i64 0, .int .i64 0, .int .i64 0, .int .i64 0, .bool false]) ?_ 1 _ rfl; refine bk (h := ?_); refine blk_put (cs := #[.int .i64 0, .string (⟨#[]⟩ : ByteArray), .int .i64 0, .int .i64 0, .int .i64 0, .int .i64 0, .int .i64 0, .int .i64 0, .bool false]) ?_ 0 _ rfl; refine bk (h := ?_); exact BK210.out) hb); replace HB := bs hb; (try clear hb); (try clear hb2); (try clear hk); (try clear hi)))
                  go_meet
                  case rel => exact ⟨_, (true), (by first | rfl | (simp; done) | (simp [*]; done)), H', ⟨by have := HK1.out; first | omega | exact Nat.le_refl _⟩, ⟨by refine ra (h := ?_); exact HO_3.out⟩, ⟨by refine bk (h := ?_); exact BK210.out⟩, ⟨bw⟩⟩
                · replace c12 := Bool.eq_false_iff.mpr c12
                  subst c12
                  rw [if_neg nf] at H
                  have H' := Aside0.mk H
                  clear H
                  obtain ⟨z15_0, z15_1, z15_2, z15_3, z15_4, z15_5, z15_6, z15_7, z15_8, y15_0, y15_1, y15_2, y15_3, y15_4, y15_5, y15_6, y15_7, y15_8⟩ := bq9 BK210
                  go_wp2_with (first | ((with_reducible refine gate_callee (f := 59) rfl ?_); refine gl (some 20) Tryd.func59 #[.agg #[.int .i64 ((rd_T34 l0 x14_1).f0), .string ((rd_T34 l0 x14_1).f1), .int .i64 ((rd_T34 l0 x14_1).f2.f0), .int .i64 ((rd_T34 l0 x14_1).f2.f1.f0), .int .i64 ((rd_T34 l0 x14_1).f2.f1.f1), .int .i64 ((rd_T34 l0 x14_1).f2.f1.f2), .int .i64 ((rd_T34 l0 x14_1).f3), .int .i64 ((rd_T34 l0 x14_1).f4), .bool ((rd_T34 l0 x14_1).f5)]] ?_; (with_reducible refine (impl_Step_isFold.calls ((rd_T34 l0 x14_1).f0) ((rd_T34 l0 x14_1).f1) ((rd_T34 l0 x14_1).f2.f0) ((rd_T34 l0 x14_1).f2.f1.f0) ((rd_T34 l0 x14_1).f2.f1.f1) ((rd_T34 l0 x14_1).f2.f1.f2) ((rd_T34 l0 x14_1).f3) ((rd_T34 l0 x14_1).f4) ((rd_T34 l0 x14_1).f5) false _ A11.out).mono ?_); rintro e w16 ⟨rfl, hb⟩; refine ⟨_, rfl, ?_⟩; replace HO_3 := Aside0.mk (Kd.R_below (by refine ra (h := ?_); exact (Kd.R_mono (Kd.R_far (p := ⟨gb210, 8, none⟩) (Kd.R_far (p := ⟨gb210, 7, none⟩) (Kd.R_far (p := ⟨gb210, 6, none⟩) (Kd.R_far (p := ⟨gb210, 5, none⟩) (Kd.R_far (p := ⟨gb210, 4, none⟩) (Kd.R_far (p := ⟨gb210, 3, none⟩) (Kd.R_far (p := ⟨gb210, 2, none⟩) (Kd.R_far (p := ⟨gb210, 1, none⟩) (Kd.R_far (p := ⟨gb210, 0, none⟩) (Kd.R_types HO_3.out BK210.out (by decide)) (fun _ hk => hk.2) (.int .i64 ((rd_T34 l0 x14_1).f0))) (fun _ hk => hk.2) (.string ((rd_T34 l0 x14_1).f1))) (fun _ hk => hk.2) (.int .i64 ((rd_T34 l0 x14_1).f2.f0))) (fun _ hk => hk.2) (.int .i64 ((rd_T34 l0 x14_1).f2.f1.f0))) (fun _ hk => hk.2) (.int .i64 ((rd_T34 l0 x14_1).f2.f1.f1))) (fun _ hk => hk.2) (.int .i64 ((rd_T34 l0 x14_1).f2.f1.f2))) (fun _ hk => hk.2) (.int .i64 ((rd_T34 l0 x14_1).f3))) (fun _ hk => hk.2) (.int .i64 ((rd_T34 l0 x14_1).f4))) (fun _ hk => hk.2) (.bool ((rd_T34 l0 x14_1).f5))) (fun _ h_ => h_.1))) hb); replace BK210 := Aside0.mk (blk_below (g := gb210) (o := .cells #[.int .i64 ((rd_T34 l0 x14_1).f0), .string ((rd_T34 l0 x14_1).f1), .int .i64 ((rd_T34 l0 x14_1).f2.f0), .int .i64 ((rd_T34 l0 x14_1).f2.f1.f0), .int .i64 ((rd_T34 l0 x14_1).f2.f1.f1), .int .i64 ((rd_T34 l0 x14_1).f2.f1.f2), .int .i64 ((rd_T34 l0 x14_1).f3), .int .i64 ((rd_T34 l0 x14_1).f4), .bool ((rd_T34 l0 x14_1).f5)] 34 (0, 0)) (by refine bk (h := ?_); refine blk_put (cs := #[.int .i64 ((rd_T34 l0 x14_1).f0), .string ((rd_T34 l0 x14_1).f1), .int .i64 ((rd_T34 l0 x14_1).f2.f0), .int .i64 ((rd_T34 l0 x14_1).f2.f1.f0), .int .i64 ((rd_T34 l0 x14_1).f2.f1.f1), .int .i64 ((rd_T34 l0 x14_1).f2.f1.f2), .int .i64 ((rd_T34 l0 x14_1).f3), .int .i64 ((rd_T34 l0 x14_1).f4), .bool false]) ?_ 8 _ rfl; refine bk (h := ?_); refine blk_put (cs := #[.int .i64 ((rd_T34 l0 x14_1).f0), .string ((rd_T34 l0 x14_1).f1), .int .i64 ((rd_T34 l0 x14_1).f2.f0), .int .i64 ((rd_T34 l0 x14_1).f2.f1.f0), .int .i64 ((rd_T34 l0 x14_1).f2.f1.f1), .int .i64 ((rd_T34 l0 x14_1).f2.f1.f2), .int .i64 ((rd_T34 l0 x14_1).f3), .int .i64 0, .bool false]) ?_ 7 _ rfl; refine bk (h := ?_); refine blk_put (cs := #[.int .i64 ((rd_T34 l0 x14_1).f0), .string ((rd_T34 l0 x14_1).f1), .int .i64 ((rd_T34 l0 x14_1).f2.f0), .int .i64 ((rd_T34 l0 x14_1).f2.f1.f0), .int .i64 ((rd_T34 l0 x14_1).f2.f1.f1), .int .i64 ((rd_T34 l0 x14_1).f2.f1.f2), .int .i64 0, .int .i64 0, .bool false]) ?_ 6 _ rfl; refine bk (h := ?_); refine blk_put (cs := #[.int .i64 ((rd_T34 l0 x14_1).f0), .string ((rd_T34 l0 x14_1).f1), .int .i64 ((rd_T34 l0 x14_1).f2.f0), .int .i64 ((rd_T34 l0 x14_1).f2.f1.f0), .int .i64 ((rd_T34 l0 x14_1).f2.f1.f1), .int .i64 0, .int .i64 0, .int .i64 0, .bool false]) ?_ 5 _ rfl; refine bk (h := ?_); refine blk_put (cs := #[.int .i64 ((rd_T34 l0 x14_1).f0), .string ((rd_T34 l0 x14_1).f1), .int .i64 ((rd_T34 l0 x14_1).f2.f0), .int .i64 ((rd_T34 l0 x14_1).f2.f1.f0), .int .i64 0, .int .i64 0, .int .i64 0, .int .i64 0, .bool false]) ?_ 4 _ rfl; refine bk (h := ?_); refine blk_put (cs := #[.int .i64 ((rd_T34 l0 x14_1).f0), .string ((rd_T34 l0 x14_1).f1), .int .i64 ((rd_T34 l0 x14_1).f2.f0), .int .i64 0, .int .i64 0, .int .i64 0, .int .i64 0, .int .i64 0, .bool false]) ?_ 3 _ rfl; refine bk (h := ?_); refine blk_put (cs := #[.int .i64 ((rd_T34 l0 x14_1).f0), .string ((rd_T34 l0 x14_1).f1), .int .i64 0, .int .i64 0, .int .i64 0, .int .i64 0, .int .i64 0, .int .i64 0, .bool false]) ?_ 2 _ rfl; refine bk (h := ?_); refine blk_put (cs := #[.int .i64 ((rd_T34 l0 x14_1).f0), .string (⟨#[]⟩ : ByteArray), .int .i64 0, .int .i64 0, .int .i64 0, .int .i64 0, .int .i64 0, .int .i64 0, .bool false]) ?_ 1 _ rfl; refine bk (h := ?_); refine blk_put (cs := #[.int .i64 0, .string (⟨#[]⟩ : ByteArray), .int .i64 0, .int .i64 0, .int .i64 0, .int .i64 0, .int .i64 0, .int .i64 0, .bool false]) ?_ 0 _ rfl; refine bk (h := ?_); exact BK210.out) hb); replace HB := bs hb; (try clear hb); (try clear hb2); (try clear hk); (try clear hi); obtain ⟨z17_0, z17_1, z17_2, z17_3, z17_4, z17_5, z17_6, z17_7, z17_8, y17_0, y17_1, y17_2, y17_3, y17_4, y17_5, y17_6, y17_7, y17_8⟩ := bq9 BK210))
                  go_meet
                  case rel => exact ⟨_, ((((rd_T34 l0 x14_1).f0) == 3)), (by first | rfl | (simp; done) | (simp [*]; done)), H', ⟨by have := HK1.out; first | omega | exact Nat.le_refl _⟩, ⟨by refine ra (h := ?_); exact HO_3.out⟩, ⟨by refine bk (h := ?_); exact BK210.out⟩, ⟨bw⟩⟩
              case rest =>
                clear HC8
                try clear c1
                try clear c2
                try clear p2
                try clear q2
                try clear hx2
                try clear c3
                try clear c5
                try clear c5b0
                try clear c6
                try clear c6b0
                try clear c7
                try clear c7b0
                try clear c12
                try clear z10_0 z10_1 z10_2 z10_3 z10_4 z10_5 z10_6 z10_7 z10_8 y10_0 y10_1 y10_2 y10_3 y10_4 y10_5 y10_6 y10_7 y10_8
                try clear z13_0 z13_1 z13_2 z13_3 z13_4 z13_5 z13_6 z13_7 z13_8 y13_0 y13_1 y13_2 y13_3 y13_4 y13_5 y13_6 y13_7 y13_8
                try clear z15_0 z15_1 z15_2 z15_3 z15_4 z15_5 z15_6 z15_7 z15_8 y15_0 y15_1 y15_2 y15_3 y15_4 y15_5 y15_6 y15_7 y15_8
                try clear z17_0 z17_1 z17_2 z17_3 z17_4 z17_5 z17_6 z17_7 z17_8 y17_0 y17_1 y17_2 y17_3 y17_4 y17_5 y17_6 y17_7 y17_8
                try clear hx209_0
                try clear hx209_1
                try clear hx209_2
                try clear hx209_3
                try clear hx209_4
                try clear hx209_5
                try clear hx209_6
                try clear hx209_7
                try clear hx209_8
                try clear p2
                try clear p209
                try clear q209
                obtain ⟨kq, x18_7, rfl, HA, HJ7, HO_3, BK210, HB⟩ := hcut
                cases kq with
                | zero => exact absurd HA.out (by simp [impl_FoldCount.j1])
                | succ kj7 =>
                  have H := HA.out
                  clear HA
                  simp only [impl_FoldCount.j1] at H
                  by_cases c18 : x18_7 = true
                  · subst c18
                    rw [if_pos rfl] at H
                    replace H := Option.bind_eq_some_iff.mp H
                    obtain ⟨t212, A190, H⟩ := H
                    replace H : (if x3_1.length < 140737488355328 then (impl_FoldCount.l0 kj7 (x3_1 ++ [t212]) l0 (l0.length : Int) (wrap64 (x14_1 + 1))) else (none)) = some r := H
                    have A19 := Aside0.mk A190
                    clear A190
                    by_cases c20 : x3_1.length < 140737488355328
                    · rw [if_pos c20] at H
                      have LMc20 := Aside0.mk c20
                      clear c20
                      obtain ⟨y213, hy213⟩ : ∃ y_ : List Bool, y_ = (x3_1 ++ [t212]) := ⟨_, rfl⟩
                      replace H : (impl_FoldCount.l0 kj7 y213 l0 (l0.length : Int) (wrap64 (x14_1 + 1))) = some r := by first | (rw [hy213]; with_reducible exact H) | (have H2_ := (Option.bind_some _ _).symm.trans H; rw [hy213]; with_reducible exact H2_) | (have H2_ := (Option.bind_some _ _).symm.trans H; with_reducible exact H2_) | with_reducible exact H | (rw [hy213]; exact H) | exact H
                      have Ny213 := Aside0.mk hy213
                      clear hy213
                      have H' := Aside0.mk H
                      clear H
                      obtain ⟨z21_0, z21_1, z21_2, z21_3, z21_4, z21_5, z21_6, z21_7, z21_8, y21_0, y21_1, y21_2, y21_3, y21_4, y21_5, y21_6, y21_7, y21_8⟩ := bq9 BK210
                      go_wp2_with (first | ((with_reducible refine gate_callee (f := 59) rfl ?_); refine gl (some 28) Tryd.func59 #[.agg #[.int .i64 ((rd_T34 l0 x14_1).f0), .string ((rd_T34 l0 x14_1).f1), .int .i64 ((rd_T34 l0 x14_1).f2.f0), .int .i64 ((rd_T34 l0 x14_1).f2.f1.f0), .int .i64 ((rd_T34 l0 x14_1).f2.f1.f1), .int .i64 ((rd_T34 l0 x14_1).f2.f1.f2), .int .i64 ((rd_T34 l0 x14_1).f3), .int .i64 ((rd_T34 l0 x14_1).f4), .bool ((rd_T34 l0 x14_1).f5)]] ?_; (with_reducible refine (impl_Step_isFold.calls ((rd_T34 l0 x14_1).f0) ((rd_T34 l0 x14_1).f1) ((rd_T34 l0 x14_1).f2.f0) ((rd_T34 l0 x14_1).f2.f1.f0) ((rd_T34 l0 x14_1).f2.f1.f1) ((rd_T34 l0 x14_1).f2.f1.f2) ((rd_T34 l0 x14_1).f3) ((rd_T34 l0 x14_1).f4) ((rd_T34 l0 x14_1).f5) t212 _ A19.out).mono ?_); rintro e w22 ⟨rfl, hb⟩; refine ⟨_, rfl, ?_⟩; replace HO_3 := Aside0.mk (Kd.R_below (ra (h := HO_3.out)) hb); replace BK210 := bb BK210 hb; replace HB := bs hb; (try clear hb); (try clear hb2); (try clear hk); (try clear hi)) | ((with_reducible refine gate_builtin (b := .append) (xs := #[.tmp 26, .tmp 29]) rfl ?_); (try (refine gate_guard (by rfl) ?_; dsimp only)); at_builtin; refine Kd.R_append Kd.bool (w0 := w) w.heap.size rfl (.tmp 26) (.tmp 29) 88 4 (.bool false) 1 rfl Tryd.underlying88 info4 rfl (by decide) (by omega) u3 x3_1 t212 [.bool t212] (fun _ => True) (fun _ => False) rfl rfl ?aP (fun _ hk => hk.elim) ?aF ?aO ?aB ?aS ?aL ?_; (case aP => exact rfl); (case aB => exact bw); (case aF => exact (fun _ _ => trivial)); (case aO => exact (ra (h := HO_3.out))); (case aS => exact (below_size bw)); (case aL => have := LMc20.out; omega); intro v214 w23 ho hb hg hat; rw [← Ny213.out] at ho; have HO215 := Aside0.mk (ho); replace BK210 := Aside0.mk (blk_grown (g := gb210) (o := .cells #[.int .i64 ((rd_T34 l0 x14_1).f0), .string ((rd_T34 l0 x14_1).f1), .int .i64 ((rd_T34 l0 x14_1).f2.f0), .int .i64 ((rd_T34 l0 x14_1).f2.f1.f0), .int .i64 ((rd_T34 l0 x14_1).f2.f1.f1), .int .i64 ((rd_T34 l0 x14_1).f2.f1.f2), .int .i64 ((rd_T34 l0 x14_1).f3), .int .i64 ((rd_T34 l0 x14_1).f4), .bool ((rd_T34 l0 x14_1).f5)] 34 (0, 0)) (by refine bk (h := ?_); exact BK210.out) hg (Kd.R_ne HO_3.out BK210.out (by decide))); replace HB := Aside0.mk (hb); clear HO_3; clear ho hb hg hat))
                      go_roundg kj7
                      case measure => have := HK1.out; have := HJ7.out; omega
                      case rel => exact ⟨(y213), (wrap64 (x14_1 + 1)), (by first | rfl | (simp; done) | (simp [*]; done)), H', ⟨by have := HK1.out; have := HJ7.out; omega⟩, ⟨by refine ra (h := ?_); exact HO215.out⟩, ⟨bw⟩⟩
                    · rw [if_neg c20] at H
                      exact absurd H (by simp)
                  · replace c18 := Bool.eq_false_iff.mpr c18
                    subst c18
                    rw [if_neg nf] at H
                    have HC24 := Aside0.mk H
                    clear H
                    go_upto_region 9 with (fail)
                    go_cut [31] (fun v31 wc => ∃ (kq : Nat) (x31_23 : Bool), v31 = .bool x31_23 ∧ Aside0 (impl_FoldCount.j2 kq x3_1 l0 (l0.length : Int) x14_1 x31_23 = some r) ∧ Aside0 (kq ≤ kj7) ∧ Aside0 (Kd.R Kd.bool 4 wc w.heap.size (fun _ => True) u3 x3_1) ∧ Aside0 (wc.heap[gb210]? = some (.cells #[.int .i64 ((rd_T34 l0 x14_1).f0), .string ((rd_T34 l0 x14_1).f1), .int .i64 ((rd_T34 l0 x14_1).f2.f0), .int .i64 ((rd_T34 l0 x14_1).f2.f1.f0), .int .i64 ((rd_T34 l0 x14_1).f2.f1.f1), .int .i64 ((rd_T34 l0 x14_1).f2.f1.f2), .int .i64 ((rd_T34 l0 x14_1).f3), .int .i64 ((rd_T34 l0 x14_1).f4), .bool ((rd_T34 l0 x14_1).f5)] 34 (0, 0))) ∧ Aside0 (Below w.heap.size w wc))
                    case first =>
                      have H := HC24.out
                      clear HC24
                      by_cases c25 : ((rd_T34 l0 x14_1).f0) = 5
                      · rw [if_pos c25] at H
                        have c25b0 : (((rd_T34 l0 x14_1).f0) == 5) = true := beq_iff_eq.mpr c25
                        have c25b1 : (((rd_T34 l0 x14_1).f0) != 5) = false := bne_eq_false_iff_eq.mpr c25
                        clear c25
                        (first | rw [c25b0] | (simp only [i64_w, i32_w]; rw [c25b0]) | skip)
                        have H' := Aside0.mk H
                        clear H
                        obtain ⟨z26_0, z26_1, z26_2, z26_3, z26_4, z26_5, z26_6, z26_7, z26_8, y26_0, y26_1, y26_2, y26_3, y26_4, y26_5, y26_6, y26_7, y26_8⟩ := bq9 BK210
                        obtain ⟨Ao27, co27, eo27⟩ := Kd.R_slice HO_3.out
                        subst eo27
                        go_wp2
                        go_meet
                        case rel => exact ⟨_, (decide ((x3_1.length : Int) > 0)), (by first | rfl | (simp; done) | (simp [*]; done)), H', ⟨by have := HK1.out; have := HJ7.out; first | omega | exact Nat.le_refl _⟩, ⟨by refine ra (h := ?_); exact HO_3.out⟩, ⟨by refine bk (h := ?_); exact BK210.out⟩, ⟨bw⟩⟩
                      · rw [if_neg c25] at H
                        have c25b0 : (((rd_T34 l0 x14_1).f0) == 5) = false := beq_eq_false_iff_ne.mpr c25
                        have c25b1 : (((rd_T34 l0 x14_1).f0) != 5) = true := bne_iff_ne.mpr c25
                        (first | rw [c25b0] | (simp only [i64_w, i32_w]; rw [c25b0]) | skip)
                        have H' := Aside0.mk H
                        clear H
                        obtain ⟨z28_0, z28_1, z28_2, z28_3, z28_4, z28_5, z28_6, z28_7, z28_8, y28_0, y28_1, y28_2, y28_3, y28_4, y28_5, y28_6, y28_7, y28_8⟩ := bq9 BK210
                        go_wp2
                        go_meet
                        case rel => exact ⟨_, (false), (by first | rfl | (simp; done) | (simp [*]; done)), H', ⟨by have := HK1.out; have := HJ7.out; first | omega | exact Nat.le_refl _⟩, ⟨by refine ra (h := ?_); exact HO_3.out⟩, ⟨by refine bk (h := ?_); exact BK210.out⟩, ⟨bw⟩⟩
                    case rest =>
                      clear HC24
                      try clear c1
                      try clear c2
                      try clear p2
                      try clear q2
                      try clear hx2
                      try clear c3
                      try clear c5
                      try clear c5b0
                      try clear c6
                      try clear c6b0
                      try clear p6
                      try clear c7
                      try clear c7b0
                      try clear c12
                      try clear c18
                      try clear c20
                      try clear p20
                      try clear q20
                      try clear hx20
                      try clear c21
                      try clear c25
                      try clear c25b0
                      try clear c25b1
                      try clear z10_0 z10_1 z10_2 z10_3 z10_4 z10_5 z10_6 z10_7 z10_8 y10_0 y10_1 y10_2 y10_3 y10_4 y10_5 y10_6 y10_7 y10_8
                      try clear z13_0 z13_1 z13_2 z13_3 z13_4 z13_5 z13_6 z13_7 z13_8 y13_0 y13_1 y13_2 y13_3 y13_4 y13_5 y13_6 y13_7 y13_8
                      try clear z15_0 z15_1 z15_2 z15_3 z15_4 z15_5 z15_6 z15_7 z15_8 y15_0 y15_1 y15_2 y15_3 y15_4 y15_5 y15_6 y15_7 y15_8
                      try clear z17_0 z17_1 z17_2 z17_3 z17_4 z17_5 z17_6 z17_7 z17_8 y17_0 y17_1 y17_2 y17_3 y17_4 y17_5 y17_6 y17_7 y17_8
                      try clear z21_0 z21_1 z21_2 z21_3 z21_4 z21_5 z21_6 z21_7 z21_8 y21_0 y21_1 y21_2 y21_3 y21_4 y21_5 y21_6 y21_7 y21_8
                      try clear z26_0 z26_1 z26_2 z26_3 z26_4 z26_5 z26_6 z26_7 z26_8 y26_0 y26_1 y26_2 y26_3 y26_4 y26_5 y26_6 y26_7 y26_8
                      try clear z28_0 z28_1 z28_2 z28_3 z28_4 z28_5 z28_6 z28_7 z28_8 y28_0 y28_1 y28_2 y28_3 y28_4 y28_5 y28_6 y28_7 y28_8
                      try clear hx209_0
                      try clear hx209_1
                      try clear hx209_2
                      try clear hx209_3
                      try clear hx209_4
                      try clear hx209_5
                      try clear hx209_6
                      try clear hx209_7
                      try clear hx209_8
                      try clear p2
                      try clear p209
                      try clear q2
                      try clear q209
                      obtain ⟨kq, x31_23, rfl, HA, HJ23, HO_3, BK210, HB⟩ := hcut
                      cases kq with
                      | zero => exact absurd HA.out (by simp [impl_FoldCount.j2])
                      | succ kj23 =>
                        have H := HA.out
                        clear HA
                        simp only [impl_FoldCount.j2] at H
                        by_cases c29 : x31_23 = true
                        · subst c29
                          rw [if_pos rfl] at H
                          obtain ⟨ji30, hji30⟩ : ∃ j_ : Int, (wrap64 ((x3_1.length : Int) - 1)) = j_ := ⟨_, rfl⟩
                          replace H : (if 0 ≤ (ji30) then (if (ji30) ≤ (x3_1.length : Int) then (impl_FoldCount.l0 kj23 (x3_1.take ((ji30) : Int).toNat) l0 (l0.length : Int) (wrap64 (x14_1 + 1))) else (none)) else (none)) = some r := by first | (rw [hji30] at H; exact H) | (simp only [hji30] at H ⊢; exact H)
                          have hji30w : (IntKind.i64.wrap ((x3_1.length : Int) - 1)) = ji30 := (i64_w _).trans hji30
                          by_cases c31 : 0 ≤ (ji30)
                          · rw [if_pos c31] at H
                            have c31b0 := eq_true c31
                            have c31b1 : decide (0 ≤ (ji30)) = true := decide_eq_true c31
                            clear c31
                            by_cases c32 : (ji30) ≤ (x3_1.length : Int)
                            · rw [if_pos c32] at H
                              have c32b0 := eq_true c32
                              have c32b1 : decide ((ji30) ≤ (x3_1.length : Int)) = true := decide_eq_true c32
                              clear c32
                              obtain ⟨y216, hy216⟩ : ∃ y_ : List Bool, y_ = (x3_1.take ((ji30) : Int).toNat) := ⟨_, rfl⟩
                              replace H : (impl_FoldCount.l0 kj23 y216 l0 (l0.length : Int) (wrap64 (x14_1 + 1))) = some r := by first | (rw [hy216]; with_reducible exact H) | (have H2_ := (Option.bind_some _ _).symm.trans H; rw [hy216]; with_reducible exact H2_) | (have H2_ := (Option.bind_some _ _).symm.trans H; with_reducible exact H2_) | with_reducible exact H | (rw [hy216]; exact H) | exact H
                              have Ny216 := Aside0.mk hy216
                              clear hy216
                              have H' := Aside0.mk H
                              clear H
                              obtain ⟨Ao33, co33, eo33⟩ := Kd.R_slice HO_3.out
                              subst eo33
                              have q34 : ((ji30) : Int) ≤ ((x3_1.length : Int) : Int) := od
                              obtain ⟨i034, hi034, _, hsz34, _⟩ := info_parts info4
                              have hcut34 := cut_to (P := Tryd.prog) 88 4 .i64 Tryd.underlying88 hi034 Ao33 x3_1.length co33 (ji30) (od) q34 (Kd.R_reads' HO_3.out).2.1
                              have hr34 := Kd.R_take (m := ((ji30) : Int).toNat) HO_3.out (by omega)
                              have hy34 : y216.length = ((ji30) : Int).toNat := (by rw [Ny216.out, List.length_take]; omega)
                              rw [← Ny216.out] at hr34
                              rw [← hy34] at hr34 hcut34
                              clear hy34 hi034 hsz34 HO_3
                              have HO218 := Aside0.mk hr34
                              clear hr34
                              replace q34 := eq_true q34
                              go_wp2
                              go_roundg kj23
                              case measure => have := HK1.out; have := HJ7.out; have := HJ23.out; omega
                              case rel => exact ⟨(y216), (wrap64 (x14_1 + 1)), (by first | rfl | (simp; done) | (simp [*]; done)), H', ⟨by have := HK1.out; have := HJ7.out; have := HJ23.out; omega⟩, ⟨by refine ra (h := ?_); exact HO218.out⟩, ⟨bw⟩⟩
                            · rw [if_neg c32] at H
                              exact absurd H (by simp)
                          · rw [if_neg c31] at H
                            exact absurd H (by simp)
                        · replace c29 := Bool.eq_false_iff.mpr c29
                          subst c29
                          rw [if_neg nf] at H
                          have H' := Aside0.mk H
                          clear H
                          go_wp2
                          go_roundg kj23
                          case measure => have := HK1.out; have := HJ7.out; have := HJ23.out; omega
                          case rel => exact ⟨(x3_1), (wrap64 (x14_1 + 1)), (by first | rfl | (simp; done) | (simp [*]; done)), H', ⟨by have := HK1.out; have := HJ7.out; have := HJ23.out; omega⟩, ⟨by refine ra (h := ?_); exact HO_3.out⟩, ⟨bw⟩⟩
            · rw [if_neg c7] at H
              exact absurd H (by simp)
          · rw [if_neg c6] at H
            exact absurd H (by simp)
        · rw [if_neg c5] at H
          have c5b0 : decide (x14_1 < (l0.length : Int)) = false := decide_eq_false c5
          clear c5
          have H' := Aside0.mk H
          clear H
          obtain ⟨Ao35, co35, eo35⟩ := Kd.R_slice HO_3.out
          subst eo35
          go_wp2
          go_loopg [6, 48] k1 (fun kq v6 v48 w' => ∃ (x6_2 : Int) (x48_2 : Int), v6 = .int .i64 x6_2 ∧ v48 = .int .i64 x48_2 ∧ Aside0 (impl_FoldCount.l1 kq x6_2 x3_1 (x3_1.length : Int) x48_2 = some r) ∧ Aside0 (kq ≤ k1) ∧ Aside0 (Kd.R Kd.bool 4 w' w.heap.size (fun _ => True) (.slice Ao35 x3_1.length co35) x3_1) ∧ Aside0 (Below w.heap.size w w'))
          case atStart => exact ⟨(0), (0), (by first | rfl | (simp; done) | (simp [*]; done)), (by first | rfl | (simp; done) | (simp [*]; done)), H', ⟨Nat.le_refl _⟩, ⟨by refine ra (h := ?_); exact HO_3.out⟩, ⟨bw⟩⟩
          case round =>
            clear H'
            try clear c1
            try clear c2
            try clear p2
            try clear q2
            try clear hx2
            try clear c3
            try clear q3
            try clear c5
            try clear c5b0
            try clear c6
            try clear c6b0
            try clear p6
            try clear c7
            try clear c7b0
            try clear c12
            try clear c18
            try clear c20
            try clear p20
            try clear q20
            try clear hx20
            try clear c21
            try clear c25
            try clear c25b0
            try clear c25b1
            try clear c29
            try clear c31
            try clear c31b0
            try clear c31b1
            try clear c32
            try clear c32b0
            try clear c32b1
            try clear q34
            try clear z10_0 z10_1 z10_2 z10_3 z10_4 z10_5 z10_6 z10_7 z10_8 y10_0 y10_1 y10_2 y10_3 y10_4 y10_5 y10_6 y10_7 y10_8
            try clear z13_0 z13_1 z13_2 z13_3 z13_4 z13_5 z13_6 z13_7 z13_8 y13_0 y13_1 y13_2 y13_3 y13_4 y13_5 y13_6 y13_7 y13_8
            try clear z15_0 z15_1 z15_2 z15_3 z15_4 z15_5 z15_6 z15_7 z15_8 y15_0 y15_1 y15_2 y15_3 y15_4 y15_5 y15_6 y15_7 y15_8
            try clear z17_0 z17_1 z17_2 z17_3 z17_4 z17_5 z17_6 z17_7 z17_8 y17_0 y17_1 y17_2 y17_3 y17_4 y17_5 y17_6 y17_7 y17_8
            try clear z21_0 z21_1 z21_2 z21_3 z21_4 z21_5 z21_6 z21_7 z21_8 y21_0 y21_1 y21_2 y21_3 y21_4 y21_5 y21_6 y21_7 y21_8
            try clear z26_0 z26_1 z26_2 z26_3 z26_4 z26_5 z26_6 z26_7 z26_8 y26_0 y26_1 y26_2 y26_3 y26_4 y26_5 y26_6 y26_7 y26_8
            try clear z28_0 z28_1 z28_2 z28_3 z28_4 z28_5 z28_6 z28_7 z28_8 y28_0 y28_1 y28_2 y28_3 y28_4 y28_5 y28_6 y28_7 y28_8
            try clear hx209_0
            try clear hx209_1
            try clear hx209_2
            try clear hx209_3
            try clear hx209_4
            try clear hx209_5
            try clear hx209_6
            try clear hx209_7
            try clear hx209_8
            try clear p2
            try clear p20
            try clear p209
            try clear p6
            try clear q2
            try clear q20
            try clear q209
            try clear q34
            obtain ⟨x6_2, x48_2, rfl, rfl, HA, HK2, HO_46, HB⟩ := hrel
            cases gk with
            | zero => exact absurd HA.out (by simp [impl_FoldCount.l1])
            | succ k2 =>
              have H := HA.out
              clear HA
              simp only [impl_FoldCount.l1] at H
              by_cases c36 : x48_2 < (x3_1.length : Int)
              · rw [if_pos c36] at H
                have c36b0 : decide (x48_2 < (x3_1.length : Int)) = true := decide_eq_true c36
                clear c36
                by_cases c37 : 0 ≤ x48_2
                · rw [if_pos c37] at H
                  have c37b0 : decide (0 ≤ x48_2) = true := decide_eq_true c37
                  clear c37
                  by_cases c38 : x48_2 < (x3_1.length : Int)
                  · rw [if_pos c38] at H
                    have c38b0 : decide (x48_2 < (x3_1.length : Int)) = true := decide_eq_true c38
                    clear c38
                    obtain ⟨bq39, hbq39⟩ : ∃ b_ : Bool, b_ = (rdOf false x3_1 x48_2) := ⟨_, rfl⟩
                    replace H : (if bq39 = true then (impl_FoldCount.l1 k2 (wrap64 (x6_2 + 1)) x3_1 (x3_1.length : Int) (wrap64 (x48_2 + 1))) else (impl_FoldCount.l1 k2 x6_2 x3_1 (x3_1.length : Int) (wrap64 (x48_2 + 1)))) = some r := by rw [← hbq39] at H; exact H
                    have Nbq39 := Aside0.mk hbq39
                    clear hbq39
                    by_cases c40 : bq39 = true
                    · subst c40
                      rw [if_pos rfl] at H
                      have H' := Aside0.mk H
                      clear H
                      have p219 : 0 ≤ (x48_2 : Int) := od
                      have q219 : x48_2 < (x3_1.length : Int) := od
                      obtain ⟨ad219, e219, hx219_0⟩ := Kd.at_bool (Kd.R_reads' HO_46.out).2.2 x48_2 p219 q219
                      (try rw [← Nbq39.out] at hx219_0)
                      cases e219
                      replace p219 := eq_true p219
                      replace q219 := eq_true q219
                      go_wp2
                      go_roundg k2
                      case measure => have := HK1.out; have := HK2.out; omega
                      case rel => exact ⟨(wrap64 (x6_2 + 1)), (wrap64 (x48_2 + 1)), (by first | rfl | (simp; done) | (simp [*]; done)), (by first | rfl | (simp; done) | (simp [*]; done)), H', ⟨by have := HK1.out; have := HK2.out; omega⟩, ⟨by refine ra (h := ?_); exact HO_46.out⟩, ⟨bw⟩⟩
                    · replace c40 := Bool.eq_false_iff.mpr c40
                      subst c40
                      rw [if_neg nf] at H
                      have H' := Aside0.mk H
                      clear H
                      have p219 : 0 ≤ (x48_2 : Int) := od
                      have q219 : x48_2 < (x3_1.length : Int) := od
                      obtain ⟨ad219, e219, hx219_0⟩ := Kd.at_bool (Kd.R_reads' HO_46.out).2.2 x48_2 p219 q219
                      (try rw [← Nbq39.out] at hx219_0)
                      cases e219
                      replace p219 := eq_true p219
                      replace q219 := eq_true q219
                      go_wp2
                      go_roundg k2
                      case measure => have := HK1.out; have := HK2.out; omega
                      case rel => exact ⟨(x6_2), (wrap64 (x48_2 + 1)), (by first | rfl | (simp; done) | (simp [*]; done)), (by first | rfl | (simp; done) | (simp [*]; done)), H', ⟨by have := HK1.out; have := HK2.out; omega⟩, ⟨by refine ra (h := ?_); exact HO_46.out⟩, ⟨bw⟩⟩
                  · rw [if_neg c38] at H
                    exact absurd H (by simp)
                · rw [if_neg c37] at H
                  exact absurd H (by simp)
              · rw [if_neg c36] at H
                have c36b0 : decide (x48_2 < (x3_1.length : Int)) = false := decide_eq_false c36
                clear c36
                obtain rfl := Option.some.inj H
                go_wp2
                go_ret
                exact ⟨er, bw⟩
  · replace c3 := Bool.eq_false_iff.mpr c3
    subst c3
    rw [if_neg nf] at H
    obtain rfl := Option.some.inj H
    go_enter Tryd.func21, Tryd.ntmps21
    go_wp2_with (first | ((with_reducible refine gate_callee (f := 18) rfl ?_); refine gl (some 10) Tryd.func18 #[.slice A0 l0.length c0] ?_; (with_reducible refine (impl_ValidProgram.calls k _ _ l0 false _ ?side1 ?side2 A2.out).mono ?_); (case side1 => repeat (first | exact HR0.out | (with_reducible refine Kd.C_alloc ?_ _) | (with_reducible refine Kd.C_drewN ?_ _) | (with_reducible refine Kd.C_drew ?_))); (case side2 => exact HC0.out); rintro e w41 ⟨rfl, hb⟩; refine ⟨_, rfl, ?_⟩; replace HB := bs hb; (try clear hb); (try clear hb2); (try clear hk); (try clear hi)))
    go_ret
    exact ⟨er, bw⟩

end Go.Proofs.YteadienaeapaeaaDoor.PW
