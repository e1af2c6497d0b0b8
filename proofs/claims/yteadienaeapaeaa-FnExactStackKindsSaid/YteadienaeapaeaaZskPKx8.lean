-- Made by a program of this session (myprint.py) out of the translation.
import Derived.Test.YteadienaeapaeaaZskPKx0
import Derived.Test.YteadienaeapaeaaZskPKx7
import Derived.Test.YteadienaeapaeaaZskShort
namespace Go.Proofs.Yteadienaeapaeaa.PK
open Go.Proofs.Yteadienaeapaeaa.Short
open Go.Proofs.Yteadienaeapaeaa.Dyn
open Go.RowKit Go.Proofs.YteadienaeapaeaaW.PrintWords Go.Proofs.YteadienaeapaeaaW.PrintLast Go.Proofs.YteadienaeapaeaaW.PrintMore
attribute [local go_sem] max2_int min2_int max_two min_two max_three min_three max_four min_four   -- for this text's walks alone
set_option linter.unusedVariables false
set_option linter.unusedSimpArgs false

/-! ### impl_crossing: function 77 -/
mutual
def impl_crossing.l0 : Nat → Int → Int → List Int → Int → Option ((List (S112)) × Bool)
  | 0, _, _, _, _ => none
  | k + 1, x0, x1, x8, x9 => if x9 ≤ 4 then ((impl_pairsAt.f k x0 x1 x9).bind fun t208 => (impl_crossing.l1 k x0 x1 x8 x9 t208 t208 (t208.length : Int) 0)) else (some (([] : List (S112)), false))
def impl_crossing.l1 : Nat → Int → Int → List Int → Int → List (S112) → List (S112) → Int → Int → Option ((List (S112)) × Bool)
  | 0, _, _, _, _, _, _, _, _ => none
  | k + 1, x0, x1, x8, x9, x10, x25, x26, x27 => if x27 < x26 then (if 0 ≤ x27 then (if x27 < (x25.length : Int) then (if 0 ≤ (wrap64 (x27 + 1)) then (if (wrap64 (x27 + 1)) ≤ (x10.length : Int) then ((some (x10.drop ((wrap64 (x27 + 1)) : Int).toNat : List (S112))).bind fun y213 => (impl_crossing.l2 k x0 x1 x8 x9 x10 x25 x26 x27 y213 (y213.length : Int) 0 ((rd_T112 x25 x27).f0) ((rd_T112 x25 x27).f1))) else (none)) else (none)) else (none)) else (none)) else (impl_crossing.l0 k x0 x1 x8 (wrap64 (x9 + 1)))
def impl_crossing.l2 : Nat → Int → Int → List Int → Int → List (S112) → List (S112) → Int → Int → List (S112) → Int → Int → Int → Int → Option ((List (S112)) × Bool)
  | 0, _, _, _, _, _, _, _, _, _, _, _, _, _ => none
  | k + 1, x0, x1, x8, x9, x10, x25, x26, x27, x35, x36, x37, x213000, x213001 => if x37 < x36 then (if 0 ≤ x37 then (if x37 < (x35.length : Int) then (if 0 ≤ ((rd_T112 x35 x37).f0) then (if ((rd_T112 x35 x37).f0) < (x8.length : Int) then (if 0 ≤ x213000 then (if x213000 < (x8.length : Int) then (if 0 ≤ x213001 then (if x213001 < (x8.length : Int) then ((impl_isAmong.f (rd x8 ((rd_T112 x35 x37).f0)) (rd x8 x213000) (rd x8 x213001)).bind fun t222 => (if 0 ≤ ((rd_T112 x35 x37).f1) then (if ((rd_T112 x35 x37).f1) < (x8.length : Int) then ((impl_isAmong.f (rd x8 ((rd_T112 x35 x37).f1)) (rd x8 x213000) (rd x8 x213001)).bind fun t226 => (if (t222 != t226) = true then (some ((([(⟨x213000, x213001⟩ : S112), (⟨(rd_T112 x35 x37).f0, (rd_T112 x35 x37).f1⟩ : S112)] : List (S112))), true)) else (impl_crossing.l2 k x0 x1 x8 x9 x10 x25 x26 x27 x35 x36 (wrap64 (x37 + 1)) x213000 x213001))) else (none)) else (none))) else (none)) else (none)) else (none)) else (none)) else (none)) else (none)) else (none)) else (none)) else (impl_crossing.l1 k x0 x1 x8 x9 x10 x25 x26 (wrap64 (x27 + 1)))
end
def impl_crossing.f (k : Nat) (a0 : Int) (a1 : Int) (l2 : List Int) : Option ((List (S112)) × Bool) := (impl_heights.f k l2).bind fun t205 => (impl_crossing.l0 k a0 a1 t205 1)
theorem impl_crossing.mono_l : ∀ k, (∀ y0 y1 y2 y3, LeO (impl_crossing.l0 k y0 y1 y2 y3) (impl_crossing.l0 (k + 1) y0 y1 y2 y3)) ∧ (∀ y0 y1 y2 y3 y4 y5 y6 y7, LeO (impl_crossing.l1 k y0 y1 y2 y3 y4 y5 y6 y7) (impl_crossing.l1 (k + 1) y0 y1 y2 y3 y4 y5 y6 y7)) ∧ (∀ y0 y1 y2 y3 y4 y5 y6 y7 y8 y9 y10 y11 y12, LeO (impl_crossing.l2 k y0 y1 y2 y3 y4 y5 y6 y7 y8 y9 y10 y11 y12) (impl_crossing.l2 (k + 1) y0 y1 y2 y3 y4 y5 y6 y7 y8 y9 y10 y11 y12))
  | 0 => ⟨fun _ _ _ _ r h => by simp [impl_crossing.l0] at h, fun _ _ _ _ _ _ _ _ r h => by simp [impl_crossing.l1] at h, fun _ _ _ _ _ _ _ _ _ _ _ _ _ r h => by simp [impl_crossing.l2] at h⟩
  | k + 1 => by
    obtain ⟨ih0, ih1, ih2⟩ := impl_crossing.mono_l k
    refine ⟨?_, ?_, ?_⟩
    · intro y0 y1 y2 y3
      unfold impl_crossing.l0
      repeat' first
      | (with_reducible exact ih0 _ _ _ _)
      | (with_reducible exact ih1 _ _ _ _ _ _ _ _)
      | (with_reducible exact ih2 _ _ _ _ _ _ _ _ _ _ _ _ _)
      | (with_reducible exact impl_heights.mono _ _)
      | (with_reducible exact impl_pairsAt.mono _ _ _ _)
      | (with_reducible exact LeO.refl _)
      | (with_reducible exact LeO.none _)
      | (with_reducible refine LeO.ite ?_ ?_)
      | (with_reducible refine LeO.bind ?_ (fun _ => ?_))
      | exact ih0 _ _ _ _
      | exact ih1 _ _ _ _ _ _ _ _
      | exact ih2 _ _ _ _ _ _ _ _ _ _ _ _ _
      | exact impl_heights.mono _ _
      | exact impl_pairsAt.mono _ _ _ _
      | exact LeO.none _
      | refine LeO.ite ?_ ?_
      | refine LeO.bind ?_ (fun _ => ?_)
    · intro y0 y1 y2 y3 y4 y5 y6 y7
      unfold impl_crossing.l1
      repeat' first
      | (with_reducible exact ih0 _ _ _ _)
      | (with_reducible exact ih1 _ _ _ _ _ _ _ _)
      | (with_reducible exact ih2 _ _ _ _ _ _ _ _ _ _ _ _ _)
      | (with_reducible exact impl_heights.mono _ _)
      | (with_reducible exact impl_pairsAt.mono _ _ _ _)
      | (with_reducible exact LeO.refl _)
      | (with_reducible exact LeO.none _)
      | (with_reducible refine LeO.ite ?_ ?_)
      | (with_reducible refine LeO.bind ?_ (fun _ => ?_))
      | exact ih0 _ _ _ _
      | exact ih1 _ _ _ _ _ _ _ _
      | exact ih2 _ _ _ _ _ _ _ _ _ _ _ _ _
      | exact impl_heights.mono _ _
      | exact impl_pairsAt.mono _ _ _ _
      | exact LeO.none _
      | refine LeO.ite ?_ ?_
      | refine LeO.bind ?_ (fun _ => ?_)
    · intro y0 y1 y2 y3 y4 y5 y6 y7 y8 y9 y10 y11 y12
      unfold impl_crossing.l2
      repeat' first
      | (with_reducible exact ih0 _ _ _ _)
      | (with_reducible exact ih1 _ _ _ _ _ _ _ _)
      | (with_reducible exact ih2 _ _ _ _ _ _ _ _ _ _ _ _ _)
      | (with_reducible exact impl_heights.mono _ _)
      | (with_reducible exact impl_pairsAt.mono _ _ _ _)
      | (with_reducible exact LeO.refl _)
      | (with_reducible exact LeO.none _)
      | (with_reducible refine LeO.ite ?_ ?_)
      | (with_reducible refine LeO.bind ?_ (fun _ => ?_))
      | exact ih0 _ _ _ _
      | exact ih1 _ _ _ _ _ _ _ _
      | exact ih2 _ _ _ _ _ _ _ _ _ _ _ _ _
      | exact impl_heights.mono _ _
      | exact impl_pairsAt.mono _ _ _ _
      | exact LeO.none _
      | refine LeO.ite ?_ ?_
      | refine LeO.bind ?_ (fun _ => ?_)
theorem impl_crossing.mono : ∀ a0 a1 a2 k, LeO (impl_crossing.f k a0 a1 a2) (impl_crossing.f (k + 1) a0 a1 a2) := by
  intro a0 a1 a2 k
  obtain ⟨ih0, ih1, ih2⟩ := impl_crossing.mono_l k
  unfold impl_crossing.f
  repeat' first
      | (with_reducible exact ih0 _ _ _ _)
      | (with_reducible exact ih1 _ _ _ _ _ _ _ _)
      | (with_reducible exact ih2 _ _ _ _ _ _ _ _ _ _ _ _ _)
      | (with_reducible exact impl_heights.mono _ _)
      | (with_reducible exact impl_pairsAt.mono _ _ _ _)
      | (with_reducible exact LeO.refl _)
      | (with_reducible exact LeO.none _)
      | (with_reducible refine LeO.ite ?_ ?_)
      | (with_reducible refine LeO.bind ?_ (fun _ => ?_))
      | exact ih0 _ _ _ _
      | exact ih1 _ _ _ _ _ _ _ _
      | exact ih2 _ _ _ _ _ _ _ _ _ _ _ _ _
      | exact impl_heights.mono _ _
      | exact impl_pairsAt.mono _ _ _ _
      | exact LeO.none _
      | refine LeO.ite ?_ ?_
      | refine LeO.bind ?_ (fun _ => ?_)
def impl_crossing.T12 : Bool × List (List Nat × List Nat) := (true, [([], []), ([], []), ([1], [1]), ([0, 2], [0, 2]), ([3], [3]), ([], []), ([], []), ([6], [6]), ([5, 7], [5, 7]), ([8], [8]), ([], []), ([], []), ([11], [11]), ([10, 12], [10, 12]), ([13], [13]), ([4, 9, 14], [4, 9, 14]), ([], []), ([], []), ([17], [17]), ([16, 18], [16, 18]), ([19], [19]), ([], []), ([], []), ([22], [22]), ([21, 23], [21, 23]), ([24], [24]), ([], []), ([], []), ([27], [27]), ([26, 28], [26, 28]), ([29], [29]), ([20, 25, 30, 15], [20, 25, 30]), ([15, 31], [15, 31])])
def impl_crossing.B12 : List Nat := [0, 0, 2, 7, 15, 0, 0, 64, 224, 480, 0, 0, 2048, 7168, 15360, 32767, 0, 0, 131072, 458752, 983040, 0, 0, 4194304, 14680064, 31457280, 0, 0, 134217728, 469762048, 1006632960, 2147483647, 4294967295]
theorem impl_crossing.tab12 : rtab .any (opsOf Try.f77 12) = impl_crossing.T12 := by kernel_rfl
theorem impl_crossing.bits12 : waitsOk impl_crossing.T12.2 impl_crossing.B12 = true := by kernel_rfl
set_option maxHeartbeats 8000000 in
set_option maxRecDepth 100000 in
theorem impl_crossing.calls (k : Nat) (a0 : Int) (a1 : Int) (A2 : Option Addr) (c2 : Nat) (l2 : List Int) (r1 : List (S112)) (r2 : Bool) (w : World) (hr2 : Kd.C (Kd.int .i64) w A2 l2.length l2) (hc2 : l2.length ≤ c2) (h : impl_crossing.f k a0 a1 l2 = some (r1, r2)) :
    Calls Try.prog 77 #[.int .i64 a0, .int .i64 a1, .slice A2 l2.length c2] w fun e w' => ∃ v0_ : Value, e = .returned (.tuple #[v0_, .bool r2]) ∧ Kd.R k112 112 w' w.heap.size (fun _ => True) v0_ r1 ∧ Below w.heap.size w w' := by
  have hu112 := Try.underlying112
  have HR2 := Aside0.mk hr2
  have HC2 := Aside0.mk hc2
  clear hr2 hc2
  have HB := Aside0.mk (Below.refl w.heap.size w)
  have H : ((impl_heights.f k l2).bind fun t205 => (impl_crossing.l0 k a0 a1 t205 1)) = some (r1, r2) := h
  clear h
  replace H := Option.bind_eq_some_iff.mp H
  obtain ⟨t205, A40, H⟩ := H
  replace H : (impl_crossing.l0 k a0 a1 t205 1) = some (r1, r2) := H
  have A4 := Aside0.mk A40
  clear A40
  have H' := Aside0.mk H
  clear H
  go_enter Try.func77, Try.ntmps77
  go_wp2_with (first | ((with_reducible refine gate_callee (f := 88) rfl ?_); refine gl (some 16) Try.func88 #[.slice A2 l2.length c2] ?_; (with_reducible refine (impl_heights.calls k _ _ l2 t205 _ ?side1 ?side2 A4.out).mono ?_); (case side1 => repeat (first | exact HR2.out | (with_reducible refine Kd.C_alloc ?_ _) | (with_reducible refine Kd.C_drewN ?_ _) | (with_reducible refine Kd.C_drew ?_))); (case side2 => exact HC2.out); rintro e w5 ⟨v206, rfl, ho0, hb⟩; refine ⟨_, rfl, ?_⟩; have HO207 := Aside0.mk (Kd.R_lower ho0 (below_size bw)); replace HB := bs hb; (try clear hb); (try clear hb2); (try clear hk); (try clear hi); (try clear ho0)))
  go_loopg [9] k (fun kq v9 w' => ∃ (x9_1 : Int), v9 = .int .i64 x9_1 ∧ Aside0 (impl_crossing.l0 kq a0 a1 t205 x9_1 = some (r1, r2)) ∧ Aside0 (kq ≤ k) ∧ Aside0 (Kd.R (Kd.int .i64) 2 w' w.heap.size (fun _ => True) v206 t205) ∧ Aside0 (Below w.heap.size w w'))
  case atStart => exact ⟨(1), (by first | rfl | (simp; done) | (simp [*]; done)), H', ⟨Nat.le_refl _⟩, ⟨by refine ra (h := ?_); exact HO207.out⟩, ⟨bw⟩⟩
  case round =>
    clear H'
    try clear c2
    try clear p2
    obtain ⟨x9_1, rfl, HA, HK1, HO_8, HB⟩ := hrel
    cases gk with
    | zero => exact absurd HA.out (by simp [impl_crossing.l0])
    | succ k1 =>
      have H := HA.out
      clear HA
      simp only [impl_crossing.l0] at H
      by_cases c6 : x9_1 ≤ 4
      · rw [if_pos c6] at H
        have c6b0 : decide (x9_1 ≤ 4) = true := decide_eq_true c6
        clear c6
        replace H := Option.bind_eq_some_iff.mp H
        obtain ⟨t208, A70, H⟩ := H
        replace H : (impl_crossing.l1 k1 a0 a1 t205 x9_1 t208 t208 (t208.length : Int) 0) = some (r1, r2) := H
        have A7 := Aside0.mk A70
        clear A70
        have H' := Aside0.mk H
        clear H
        go_wp2_with (first | ((with_reducible refine gate_callee (f := 141) rfl ?_); refine gl (some 24) Try.func141 #[.int .i64 a0, .int .i64 a1, .int .i64 x9_1] ?_; (with_reducible refine (impl_pairsAt.calls k1 a0 a1 x9_1 t208 _ A7.out).mono ?_); rintro e w8 ⟨v209, rfl, ho0, hb⟩; refine ⟨_, rfl, ?_⟩; have HO210 := Aside0.mk (Kd.R_lower ho0 (below_size bw)); replace HO_8 := Aside0.mk (Kd.R_below (ra (h := HO_8.out)) hb); replace HB := bs hb; (try clear hb); (try clear hb2); (try clear hk); (try clear hi); (try clear ho0); obtain ⟨Ao9, co9, eo9⟩ := Kd.R_slice HO210.out; subst eo9))
        go_loopg [27] k1 (fun kq v27 w' => ∃ (x27_2 : Int), v27 = .int .i64 x27_2 ∧ Aside0 (impl_crossing.l1 kq a0 a1 t205 x9_1 t208 t208 (t208.length : Int) x27_2 = some (r1, r2)) ∧ Aside0 (kq ≤ k1) ∧ Aside0 (Kd.R (Kd.int .i64) 2 w' w.heap.size (fun _ => True) v206 t205) ∧ Aside0 (Kd.R k112 112 w' w.heap.size (fun _ => True) (.slice Ao9 t208.length co9) t208) ∧ Aside0 (Kd.R k112 112 w' w.heap.size (fun _ => True) (.slice Ao9 t208.length co9) t208) ∧ Aside0 (Below w.heap.size w w'))
        case atStart => exact ⟨(0), (by first | rfl | (simp; done) | (simp [*]; done)), H', ⟨Nat.le_refl _⟩, ⟨by refine ra (h := ?_); exact HO_8.out⟩, ⟨by refine ra (h := ?_); exact HO210.out⟩, ⟨by refine ra (h := ?_); exact HO210.out⟩, ⟨bw⟩⟩
        case round =>
          clear H'
          try clear c1
          try clear c2
          try clear p2
          try clear c6
          try clear c6b0
          try clear c7
          try clear c8
          try clear p2
          obtain ⟨x27_2, rfl, HA, HK2, HO_8, HO_10, HO_25, HB⟩ := hrel
          cases gk with
          | zero => exact absurd HA.out (by simp [impl_crossing.l1])
          | succ k2 =>
            have H := HA.out
            clear HA
            simp only [impl_crossing.l1] at H
            by_cases c10 : x27_2 < (t208.length : Int)
            · rw [if_pos c10] at H
              have c10b0 : decide (x27_2 < (t208.length : Int)) = true := decide_eq_true c10
              clear c10
              by_cases c11 : 0 ≤ x27_2
              · rw [if_pos c11] at H
                have c11b0 : decide (0 ≤ x27_2) = true := decide_eq_true c11
                clear c11
                by_cases c12 : x27_2 < (t208.length : Int)
                · rw [if_pos c12] at H
                  have c12b0 : decide (x27_2 < (t208.length : Int)) = true := decide_eq_true c12
                  clear c12
                  obtain ⟨ji13, hji13⟩ : ∃ j_ : Int, (wrap64 (x27_2 + 1)) = j_ := ⟨_, rfl⟩
                  replace H : (if 0 ≤ (ji13) then (if (ji13) ≤ (t208.length : Int) then ((some (t208.drop ((ji13) : Int).toNat : List (S112))).bind fun y213 => (impl_crossing.l2 k2 a0 a1 t205 x9_1 t208 t208 (t208.length : Int) x27_2 y213 (y213.length : Int) 0 ((rd_T112 t208 x27_2).f0) ((rd_T112 t208 x27_2).f1))) else (none)) else (none)) = some (r1, r2) := by first | (rw [hji13] at H; exact H) | (simp only [hji13] at H ⊢; exact H)
                  have hji13w : (IntKind.i64.wrap (x27_2 + 1)) = ji13 := (i64_w _).trans hji13
                  by_cases c14 : 0 ≤ (ji13)
                  · rw [if_pos c14] at H
                    have c14b0 := eq_true c14
                    have c14b1 : decide (0 ≤ (ji13)) = true := decide_eq_true c14
                    clear c14
                    by_cases c15 : (ji13) ≤ (t208.length : Int)
                    · rw [if_pos c15] at H
                      have c15b0 := eq_true c15
                      have c15b1 : decide ((ji13) ≤ (t208.length : Int)) = true := decide_eq_true c15
                      clear c15
                      obtain ⟨y213, hy213⟩ : ∃ y_ : List (S112), y_ = (t208.drop ((ji13) : Int).toNat) := ⟨_, rfl⟩
                      replace H : (impl_crossing.l2 k2 a0 a1 t205 x9_1 t208 t208 (t208.length : Int) x27_2 y213 (y213.length : Int) 0 ((rd_T112 t208 x27_2).f0) ((rd_T112 t208 x27_2).f1)) = some (r1, r2) := by first | (rw [hy213]; with_reducible exact H) | (have H2_ := (Option.bind_some _ _).symm.trans H; rw [hy213]; with_reducible exact H2_) | (have H2_ := (Option.bind_some _ _).symm.trans H; with_reducible exact H2_) | with_reducible exact H | (rw [hy213]; exact H) | exact H
                      have Ny213 := Aside0.mk hy213
                      clear hy213
                      have H' := Aside0.mk H
                      clear H
                      have p211 : 0 ≤ (x27_2 : Int) := od
                      have q211 : x27_2 < (t208.length : Int) := od
                      obtain ⟨ad211, e211, hx211_0, hx211_1⟩ := at_T112 (Kd.R_reads' HO_25.out).2.2 x27_2 p211 q211
                      cases e211
                      replace p211 := eq_true p211
                      replace q211 := eq_true q211
                      go_wp2_with (first | ((with_reducible refine gate_dst (N := 12) rfl ?_); refine bx #[.int .i64 0, .int .i64 0] 112 ?_; intro gb212 hg w16 hbox hb; have BK212 := Aside0.mk hbox; have GW212 := bg hg; have GE212 := bg hg; replace HO_8 := Aside0.mk (Kd.R_below (ra (h := HO_8.out)) hb); replace HO_10 := Aside0.mk (Kd.R_below (Kd.R_elderB (ra (h := HO_10.out)) gb212 (Nat.le_of_eq hg.symm)) hb); replace HO_25 := Aside0.mk (Kd.R_below (Kd.R_elderB (ra (h := HO_25.out)) gb212 (Nat.le_of_eq hg.symm)) hb); replace HB := bs hb; clear hb hbox hg; obtain ⟨z17_0, z17_1, y17_0, y17_1⟩ := bq2 BK212) | ((with_reducible refine gate_store (t := 112) (p := 12) rfl ?_); refine store_event (t := 112) (p := 12) (v := ?vo_w18) (w1 := ((w16.setCell ⟨gb212, 0, none⟩ (.int .i64 ((rd_T112 t208 x27_2).f0))).setCell ⟨gb212, 1, none⟩ (.int .i64 ((rd_T112 t208 x27_2).f1)))) ?hg ?ho ?hn ?hr ?_; (case ho => rfl); (case hg => rfl); (case hn => rfl); (case hr => first | (go_simp; done) | (go_simp; rfl)); intro w18 hw; have n0_ : Aside0 (Kd.R (Kd.int .i64) 2 w18 w.heap.size (fun _ => True) v206 t205) := ⟨(by rw [hw]; exact (by refine ra (h := ?_); exact Kd.R_mono (Kd.R_far (p := ⟨gb212, 1, none⟩) (Kd.R_far (p := ⟨gb212, 0, none⟩) (Kd.R_types HO_8.out BK212.out (by decide)) (fun _ hk => hk.2) (.int .i64 ((rd_T112 t208 x27_2).f0))) (fun _ hk => hk.2) (.int .i64 ((rd_T112 t208 x27_2).f1))) (fun _ hk => trivial)))⟩; have n1_ : Aside0 (Kd.R k112 112 w18 w.heap.size (fun k_ => k_ ≠ gb212) (.slice (some ad211) t208.length co9) t208) := ⟨(by rw [hw]; exact (by refine ra (h := ?_); exact Kd.R_mono (Kd.R_far (p := ⟨gb212, 1, none⟩) (Kd.R_far (p := ⟨gb212, 0, none⟩) (Kd.R_mono HO_10.out (fun k_ hk => (⟨hk, hk.2⟩ : _ ∧ k_ ≠ gb212))) (fun _ hk => hk.2) (.int .i64 ((rd_T112 t208 x27_2).f0))) (fun _ hk => hk.2) (.int .i64 ((rd_T112 t208 x27_2).f1))) (fun _ hk => hk.1.2)))⟩; have n2_ : Aside0 (Kd.R k112 112 w18 w.heap.size (fun k_ => k_ ≠ gb212) (.slice (some ad211) t208.length co9) t208) := ⟨(by rw [hw]; exact (by refine ra (h := ?_); exact Kd.R_mono (Kd.R_far (p := ⟨gb212, 1, none⟩) (Kd.R_far (p := ⟨gb212, 0, none⟩) (Kd.R_mono HO_25.out (fun k_ hk => (⟨hk, hk.2⟩ : _ ∧ k_ ≠ gb212))) (fun _ hk => hk.2) (.int .i64 ((rd_T112 t208 x27_2).f0))) (fun _ hk => hk.2) (.int .i64 ((rd_T112 t208 x27_2).f1))) (fun _ hk => hk.1.2)))⟩; have n3_ : Aside0 (w18.heap[gb212]? = some (.cells #[.int .i64 ((rd_T112 t208 x27_2).f0), .int .i64 ((rd_T112 t208 x27_2).f1)] 112 (0, 0))) := ⟨(by rw [hw]; exact (by refine bk (h := ?_); refine blk_put (cs := #[.int .i64 ((rd_T112 t208 x27_2).f0), .int .i64 0]) ?_ 1 _ rfl; refine bk (h := ?_); refine blk_put (cs := #[.int .i64 0, .int .i64 0]) ?_ 0 _ rfl; refine bk (h := ?_); exact BK212.out))⟩; have n4_ : Aside0 (Below w.heap.size w w18) := ⟨(by rw [hw]; exact bw)⟩; clear hw; clear HO_8; clear HO_10; clear HO_25; clear BK212; clear HB; have HO_8 := n0_; have HO_10 := n1_; have HO_25 := n2_; have BK212 := n3_; have HB := n4_; clear n0_ n1_ n2_ n3_ n4_; have q19 : ((ji13) : Int) ≤ ((t208.length : Int) : Int) := od; obtain ⟨i019, hi019, _, hsz19, _⟩ := info_parts info112; have hroom19 : t208.length ≤ co9 := (Kd.R_reads' HO_10.out).2.1; have hC19 : Kd.C k112 _ (some ad211) t208.length t208 := (Kd.R_reads' HO_10.out).2.2; have q019 : (0 : Int) ≤ ((ji13) : Int) := od; have hcut19 := cut_from (P := Try.prog) 54 112 .i64 Try.underlying54 hi019 2 hsz19 (some ad211) t208.length co9 (ji13) q019 q19; have hr19 := Kd.C_drop (m := ((ji13) : Int).toNat) (c := co9) hC19 (by omega) hroom19; obtain ⟨A19, hA19⟩ : ∃ A1, A1 = (if co9 = ((ji13) : Int).toNat then (some ad211) else ((some ad211) : Option Addr).map (·.add (((ji13) : Int).toNat * 2))) := ⟨_, rfl⟩; obtain ⟨c19, hc19⟩ : ∃ c1, c1 = co9 - ((ji13) : Int).toNat := ⟨_, rfl⟩; have hy19 : y213.length = t208.length - ((ji13) : Int).toNat := (by rw [Ny213.out, List.length_drop] <;> omega); rw [show (t208).drop ((ji13) : Int).toNat = y213 from Ny213.out.symm] at hr19; replace hr19 : Kd.C k112 _ A19 y213.length y213 := (by rw [hA19]; exact hr19); rw [← hy19, ← hA19, ← hc19] at hcut19; have HR216 := Aside0.mk hr19; have HC216 := Aside0.mk (show y213.length ≤ c19 from by rw [hy19, hc19]; exact Nat.sub_le_sub_right hroom19 _); clear hr19 hC19 hroom19 hi019 hsz19 hc19; have KY19 := Aside0.mk hy19; have KA19 := Aside0.mk hA19; clear hy19 hA19; have KL19 := Aside0.mk (show ((ji13) : Int).toNat ≤ t208.length from by omega); replace q19 := eq_true q19))
                      go_loopg [37] k2 (fun kq v37 w' => ∃ (x37_3 : Int), v37 = .int .i64 x37_3 ∧ Aside0 (impl_crossing.l2 kq a0 a1 t205 x9_1 t208 t208 (t208.length : Int) x27_2 y213 (y213.length : Int) x37_3 ((rd_T112 t208 x27_2).f0) ((rd_T112 t208 x27_2).f1) = some (r1, r2)) ∧ Aside0 (kq ≤ k2) ∧ Aside0 (Kd.R (Kd.int .i64) 2 w' w.heap.size (fun _ => True) v206 t205) ∧ Aside0 (Kd.R k112 112 w' w.heap.size (fun k_ => k_ ≠ gb212) (.slice (some ad211) t208.length co9) t208) ∧ Aside0 (Kd.R k112 112 w' w.heap.size (fun k_ => k_ ≠ gb212) (.slice (some ad211) t208.length co9) t208) ∧ Aside0 (w'.heap[gb212]? = some (.cells #[.int .i64 ((rd_T112 t208 x27_2).f0), .int .i64 ((rd_T112 t208 x27_2).f1)] 112 (0, 0))) ∧ Aside0 (Below w.heap.size w w'))
                      case atStart => exact ⟨(0), (by first | rfl | (simp; done) | (simp [*]; done)), H', ⟨Nat.le_refl _⟩, ⟨by refine ra (h := ?_); exact HO_8.out⟩, ⟨by refine ra (h := ?_); exact HO_10.out⟩, ⟨by refine ra (h := ?_); exact HO_25.out⟩, ⟨by refine bk (h := ?_); exact BK212.out⟩, ⟨bw⟩⟩
                      case round =>
                        clear H'
                        try clear c1
                        try clear q1
                        try clear c2
                        try clear p2
                        try clear q2
                        try clear hx2
                        try clear c6
                        try clear c6b0
                        try clear p6
                        try clear c7
                        try clear c8
                        try clear c10
                        try clear c10b0
                        try clear c11
                        try clear c11b0
                        try clear c12
                        try clear c12b0
                        try clear c14
                        try clear c14b0
                        try clear c14b1
                        try clear c15
                        try clear c15b0
                        try clear c15b1
                        try clear c19
                        try clear q19
                        try clear z17_0 z17_1 y17_0 y17_1
                        try clear hx211_0
                        try clear hx211_1
                        try clear p2
                        try clear p211
                        try clear q019
                        try clear q19
                        try clear q211
                        obtain ⟨x37_3, rfl, HA, HK3, HO_8, HO_10, HO_25, BK212, HB⟩ := hrel
                        cases gk with
                        | zero => exact absurd HA.out (by simp [impl_crossing.l2])
                        | succ k3 =>
                          have H := HA.out
                          clear HA
                          simp only [impl_crossing.l2] at H
                          by_cases c20 : x37_3 < (y213.length : Int)
                          · rw [if_pos c20] at H
                            have c20b0 : decide (x37_3 < (y213.length : Int)) = true := decide_eq_true c20
                            clear c20
                            by_cases c21 : 0 ≤ x37_3
                            · rw [if_pos c21] at H
                              have c21b0 : decide (0 ≤ x37_3) = true := decide_eq_true c21
                              clear c21
                              by_cases c22 : x37_3 < (y213.length : Int)
                              · rw [if_pos c22] at H
                                have c22b0 : decide (x37_3 < (y213.length : Int)) = true := decide_eq_true c22
                                clear c22
                                by_cases c23 : 0 ≤ ((rd_T112 y213 x37_3).f0)
                                · rw [if_pos c23] at H
                                  have c23b0 : decide (0 ≤ ((rd_T112 y213 x37_3).f0)) = true := decide_eq_true c23
                                  clear c23
                                  by_cases c24 : ((rd_T112 y213 x37_3).f0) < (t205.length : Int)
                                  · rw [if_pos c24] at H
                                    have c24b0 : decide (((rd_T112 y213 x37_3).f0) < (t205.length : Int)) = true := decide_eq_true c24
                                    clear c24
                                    by_cases c25 : 0 ≤ ((rd_T112 t208 x27_2).f0)
                                    · rw [if_pos c25] at H
                                      have c25b0 : decide (0 ≤ ((rd_T112 t208 x27_2).f0)) = true := decide_eq_true c25
                                      clear c25
                                      by_cases c26 : ((rd_T112 t208 x27_2).f0) < (t205.length : Int)
                                      · rw [if_pos c26] at H
                                        have c26b0 : decide (((rd_T112 t208 x27_2).f0) < (t205.length : Int)) = true := decide_eq_true c26
                                        clear c26
                                        by_cases c27 : 0 ≤ ((rd_T112 t208 x27_2).f1)
                                        · rw [if_pos c27] at H
                                          have c27b0 : decide (0 ≤ ((rd_T112 t208 x27_2).f1)) = true := decide_eq_true c27
                                          clear c27
                                          by_cases c28 : ((rd_T112 t208 x27_2).f1) < (t205.length : Int)
                                          · rw [if_pos c28] at H
                                            have c28b0 : decide (((rd_T112 t208 x27_2).f1) < (t205.length : Int)) = true := decide_eq_true c28
                                            clear c28
                                            replace H := Option.bind_eq_some_iff.mp H
                                            obtain ⟨t222, A290, H⟩ := H
                                            replace H : (if 0 ≤ ((rd_T112 y213 x37_3).f1) then (if ((rd_T112 y213 x37_3).f1) < (t205.length : Int) then ((impl_isAmong.f (rd t205 ((rd_T112 y213 x37_3).f1)) (rd t205 ((rd_T112 t208 x27_2).f0)) (rd t205 ((rd_T112 t208 x27_2).f1))).bind fun t226 => (if (t222 != t226) = true then (some ((([(⟨((rd_T112 t208 x27_2).f0), ((rd_T112 t208 x27_2).f1)⟩ : S112), (⟨(rd_T112 y213 x37_3).f0, (rd_T112 y213 x37_3).f1⟩ : S112)] : List (S112))), true)) else (impl_crossing.l2 k3 a0 a1 t205 x9_1 t208 t208 (t208.length : Int) x27_2 y213 (y213.length : Int) (wrap64 (x37_3 + 1)) ((rd_T112 t208 x27_2).f0) ((rd_T112 t208 x27_2).f1)))) else (none)) else (none)) = some (r1, r2) := H
                                            have A29 := Aside0.mk A290
                                            clear A290
                                            by_cases c30 : 0 ≤ ((rd_T112 y213 x37_3).f1)
                                            · rw [if_pos c30] at H
                                              have c30b0 : decide (0 ≤ ((rd_T112 y213 x37_3).f1)) = true := decide_eq_true c30
                                              clear c30
                                              by_cases c31 : ((rd_T112 y213 x37_3).f1) < (t205.length : Int)
                                              · rw [if_pos c31] at H
                                                have c31b0 : decide (((rd_T112 y213 x37_3).f1) < (t205.length : Int)) = true := decide_eq_true c31
                                                clear c31
                                                replace H := Option.bind_eq_some_iff.mp H
                                                obtain ⟨t226, A320, H⟩ := H
                                                replace H : (if (t222 != t226) = true then (some ((([(⟨((rd_T112 t208 x27_2).f0), ((rd_T112 t208 x27_2).f1)⟩ : S112), (⟨(rd_T112 y213 x37_3).f0, (rd_T112 y213 x37_3).f1⟩ : S112)] : List (S112))), true)) else (impl_crossing.l2 k3 a0 a1 t205 x9_1 t208 t208 (t208.length : Int) x27_2 y213 (y213.length : Int) (wrap64 (x37_3 + 1)) ((rd_T112 t208 x27_2).f0) ((rd_T112 t208 x27_2).f1))) = some (r1, r2) := H
                                                have A32 := Aside0.mk A320
                                                clear A320
                                                by_cases c33 : (t222 != t226) = true
                                                · rw [if_pos c33] at H
                                                  have c33b0 : (t222 != t226) = true := c33
                                                  (try (have c33b1 : decide (t222 = t226) = false := by simpa using c33))
                                                  (try (have c33b2 : (t222 == t226) = false := by simpa using c33))
                                                  (try (have c33b3 : ¬ (t222 = t226) := by simpa using c33))
                                                  clear c33
                                                  obtain ⟨y227, hy227⟩ : ∃ y_ : List (S112), y_ = (([(⟨((rd_T112 t208 x27_2).f0), ((rd_T112 t208 x27_2).f1)⟩ : S112), (⟨(rd_T112 y213 x37_3).f0, (rd_T112 y213 x37_3).f1⟩ : S112)] : List (S112))) := ⟨_, rfl⟩
                                                  replace H : (some (y227, true)) = some (r1, r2) := by first | (rw [hy227]; with_reducible exact H) | (have H2_ := (Option.bind_some _ _).symm.trans H; rw [hy227]; with_reducible exact H2_) | (have H2_ := (Option.bind_some _ _).symm.trans H; with_reducible exact H2_) | with_reducible exact H | (rw [hy227]; exact H) | exact H
                                                  have Ny227 := Aside0.mk hy227
                                                  clear hy227
                                                  simp only [Option.some.injEq, Prod.mk.injEq] at H
                                                  obtain ⟨rfl, rfl⟩ := H
                                                  have p217 : 0 ≤ (x37_3 : Int) := od
                                                  have q217 : x37_3 < (y213.length : Int) := od
                                                  obtain ⟨ad217, e217, hx217_0, hx217_1⟩ := at_T112 (show Kd.C k112 _ A19 y213.length y213 from by rw [Ny213.out, KA19.out]; exact Kd.C_drop (m := ((ji13) : Int).toNat) (c := co9) ((Kd.R_reads' HO_10.out).2.2) KL19.out ((Kd.R_reads' HO_10.out).2.1)) x37_3 p217 q217
                                                  cases e217
                                                  replace p217 := eq_true p217
                                                  replace q217 := eq_true q217
                                                  try go_wp2_with (first | ((with_reducible refine gate_dst (N := 14) rfl ?_); refine bx #[.int .i64 0, .int .i64 0] 112 ?_; intro gb218 hg w34 hbox hb; have BK218 := Aside0.mk hbox; have GW218 := bg hg; have GE218 := bg hg; have NB212_218 := bl BK212 hg; have NB218_212 := bv BK212 hg; replace HO_8 := Aside0.mk (Kd.R_below (ra (h := HO_8.out)) hb); replace HO_10 := Aside0.mk (Kd.R_below (Kd.R_elderB (ra (h := HO_10.out)) gb218 (Nat.le_of_eq hg.symm)) hb); replace HO_25 := Aside0.mk (Kd.R_below (Kd.R_elderB (ra (h := HO_25.out)) gb218 (Nat.le_of_eq hg.symm)) hb); replace BK212 := bb BK212 hb; replace HB := bs hb; clear hb hbox hg; have hnb35 := NB218_212.out; have hnc35 := NB212_218.out; obtain ⟨z36_0, z36_1, y36_0, y36_1⟩ := bq2 BK218))
                                                  have n0_ : Aside0 (Kd.R (Kd.int .i64) 2 ((w34.setCell ⟨gb218, 0, none⟩ (.int .i64 ((rd_T112 y213 x37_3).f0))).setCell ⟨gb218, 1, none⟩ (.int .i64 ((rd_T112 y213 x37_3).f1))) w.heap.size (fun _ => True) v206 t205) := ⟨by refine ra (h := ?_); exact Kd.R_mono (Kd.R_far (p := ⟨gb218, 1, none⟩) (Kd.R_far (p := ⟨gb218, 0, none⟩) (Kd.R_types HO_8.out BK218.out (by decide)) (fun _ hk => hk.2) (.int .i64 ((rd_T112 y213 x37_3).f0))) (fun _ hk => hk.2) (.int .i64 ((rd_T112 y213 x37_3).f1))) (fun _ hk => trivial)⟩
                                                  have n1_ : Aside0 (Kd.R k112 112 ((w34.setCell ⟨gb218, 0, none⟩ (.int .i64 ((rd_T112 y213 x37_3).f0))).setCell ⟨gb218, 1, none⟩ (.int .i64 ((rd_T112 y213 x37_3).f1))) w.heap.size (fun k_ => k_ ≠ gb212 ∧ k_ ≠ gb218) (.slice (some ad211) t208.length co9) t208) := ⟨by refine ra (h := ?_); exact Kd.R_mono (Kd.R_far (p := ⟨gb218, 1, none⟩) (Kd.R_far (p := ⟨gb218, 0, none⟩) (Kd.R_mono HO_10.out (fun k_ hk => (⟨hk, hk.2⟩ : _ ∧ k_ ≠ gb218))) (fun _ hk => hk.2) (.int .i64 ((rd_T112 y213 x37_3).f0))) (fun _ hk => hk.2) (.int .i64 ((rd_T112 y213 x37_3).f1))) (fun _ hk => ⟨hk.1.1, hk.1.2⟩)⟩
                                                  have n2_ : Aside0 (Kd.R k112 112 ((w34.setCell ⟨gb218, 0, none⟩ (.int .i64 ((rd_T112 y213 x37_3).f0))).setCell ⟨gb218, 1, none⟩ (.int .i64 ((rd_T112 y213 x37_3).f1))) w.heap.size (fun k_ => k_ ≠ gb212 ∧ k_ ≠ gb218) (.slice (some ad211) t208.length co9) t208) := ⟨by refine ra (h := ?_); exact Kd.R_mono (Kd.R_far (p := ⟨gb218, 1, none⟩) (Kd.R_far (p := ⟨gb218, 0, none⟩) (Kd.R_mono HO_25.out (fun k_ hk => (⟨hk, hk.2⟩ : _ ∧ k_ ≠ gb218))) (fun _ hk => hk.2) (.int .i64 ((rd_T112 y213 x37_3).f0))) (fun _ hk => hk.2) (.int .i64 ((rd_T112 y213 x37_3).f1))) (fun _ hk => ⟨hk.1.1, hk.1.2⟩)⟩
                                                  have n3_ : Aside0 (((w34.setCell ⟨gb218, 0, none⟩ (.int .i64 ((rd_T112 y213 x37_3).f0))).setCell ⟨gb218, 1, none⟩ (.int .i64 ((rd_T112 y213 x37_3).f1))).heap[gb212]? = some (.cells #[.int .i64 ((rd_T112 t208 x27_2).f0), .int .i64 ((rd_T112 t208 x27_2).f1)] 112 (0, 0))) := ⟨by refine bk (h := ?_); refine blk_far ?_ NB212_218.out _; refine bk (h := ?_); refine blk_far ?_ NB212_218.out _; refine bk (h := ?_); exact BK212.out⟩
                                                  have n4_ : Aside0 (((w34.setCell ⟨gb218, 0, none⟩ (.int .i64 ((rd_T112 y213 x37_3).f0))).setCell ⟨gb218, 1, none⟩ (.int .i64 ((rd_T112 y213 x37_3).f1))).heap[gb218]? = some (.cells #[.int .i64 ((rd_T112 y213 x37_3).f0), .int .i64 ((rd_T112 y213 x37_3).f1)] 112 (0, 0))) := ⟨by refine bk (h := ?_); refine blk_put (cs := #[.int .i64 ((rd_T112 y213 x37_3).f0), .int .i64 0]) ?_ 1 _ rfl; refine bk (h := ?_); refine blk_put (cs := #[.int .i64 0, .int .i64 0]) ?_ 0 _ rfl; refine bk (h := ?_); exact BK218.out⟩
                                                  have n5_ : Aside0 (Below w.heap.size w ((w34.setCell ⟨gb218, 0, none⟩ (.int .i64 ((rd_T112 y213 x37_3).f0))).setCell ⟨gb218, 1, none⟩ (.int .i64 ((rd_T112 y213 x37_3).f1)))) := ⟨bw⟩
                                                  (try clear HO_8)
                                                  (try clear HO_10)
                                                  (try clear HO_25)
                                                  (try clear BK212)
                                                  (try clear BK218)
                                                  (try clear HB)
                                                  generalize ((w34.setCell ⟨gb218, 0, none⟩ (.int .i64 ((rd_T112 y213 x37_3).f0))).setCell ⟨gb218, 1, none⟩ (.int .i64 ((rd_T112 y213 x37_3).f1))) = w37 at n0_ n1_ n2_ n3_ n4_ n5_ ⊢
                                                  have HO_8 := n0_
                                                  have HO_10 := n1_
                                                  have HO_25 := n2_
                                                  have BK212 := n3_
                                                  have BK218 := n4_
                                                  have HB := n5_
                                                  clear n0_ n1_ n2_ n3_ n4_ n5_
                                                  replace HO_8 := Aside0.mk (Kd.R_drew HO_8.out)
                                                  replace HO_10 := Aside0.mk (Kd.R_drew HO_10.out)
                                                  replace HO_25 := Aside0.mk (Kd.R_drew HO_25.out)
                                                  replace BK212 := Aside0.mk (blk_drew BK212.out)
                                                  replace BK218 := Aside0.mk (blk_drew BK218.out)
                                                  replace HB := Aside0.mk (below_drew1 HB.out)
                                                  obtain ⟨Ao39, co39, eo39⟩ := Kd.R_slice HO_8.out
                                                  (first | subst eo39 | (injection eo39 with f1_ f2_ f3_; have f4_ := f1_.symm; have f5_ := f3_.symm; clear f1_ f2_ f3_; subst f4_; subst f5_))
                                                  have p219 : 0 ≤ (((rd_T112 y213 x37_3).f0) : Int) := od
                                                  have q219 : ((rd_T112 y213 x37_3).f0) < (t205.length : Int) := od
                                                  obtain ⟨ad219, e219, hx219_0⟩ := Kd.at_int (Kd.R_reads' HO_8.out).2.2 ((rd_T112 y213 x37_3).f0) p219 q219
                                                  cases e219
                                                  replace p219 := eq_true p219
                                                  replace q219 := eq_true q219
                                                  have p220 : 0 ≤ (((rd_T112 t208 x27_2).f0) : Int) := od
                                                  have q220 : ((rd_T112 t208 x27_2).f0) < (t205.length : Int) := od
                                                  obtain ⟨ad220, e220, hx220_0⟩ := Kd.at_int (Kd.R_reads' HO_8.out).2.2 ((rd_T112 t208 x27_2).f0) p220 q220
                                                  obtain rfl : ad219 = ad220 := (by injection e220)
                                                  replace p220 := eq_true p220
                                                  replace q220 := eq_true q220
                                                  have p221 : 0 ≤ (((rd_T112 t208 x27_2).f1) : Int) := od
                                                  have q221 : ((rd_T112 t208 x27_2).f1) < (t205.length : Int) := od
                                                  obtain ⟨ad221, e221, hx221_0⟩ := Kd.at_int (Kd.R_reads' HO_8.out).2.2 ((rd_T112 t208 x27_2).f1) p221 q221
                                                  obtain rfl : ad219 = ad221 := (by injection e221)
                                                  replace p221 := eq_true p221
                                                  replace q221 := eq_true q221
                                                  have p223 : 0 ≤ (((rd_T112 y213 x37_3).f1) : Int) := od
                                                  have q223 : ((rd_T112 y213 x37_3).f1) < (t205.length : Int) := od
                                                  obtain ⟨ad223, e223, hx223_0⟩ := Kd.at_int (Kd.R_reads' HO_8.out).2.2 ((rd_T112 y213 x37_3).f1) p223 q223
                                                  obtain rfl : ad219 = ad223 := (by injection e223)
                                                  replace p223 := eq_true p223
                                                  replace q223 := eq_true q223
                                                  have p224 : 0 ≤ (((rd_T112 t208 x27_2).f0) : Int) := od
                                                  have q224 : ((rd_T112 t208 x27_2).f0) < (t205.length : Int) := od
                                                  obtain ⟨ad224, e224, hx224_0⟩ := Kd.at_int (Kd.R_reads' HO_8.out).2.2 ((rd_T112 t208 x27_2).f0) p224 q224
                                                  obtain rfl : ad219 = ad224 := (by injection e224)
                                                  replace p224 := eq_true p224
                                                  replace q224 := eq_true q224
                                                  have p225 : 0 ≤ (((rd_T112 t208 x27_2).f1) : Int) := od
                                                  have q225 : ((rd_T112 t208 x27_2).f1) < (t205.length : Int) := od
                                                  obtain ⟨ad225, e225, hx225_0⟩ := Kd.at_int (Kd.R_reads' HO_8.out).2.2 ((rd_T112 t208 x27_2).f1) p225 q225
                                                  obtain rfl : ad219 = ad225 := (by injection e225)
                                                  replace p225 := eq_true p225
                                                  replace q225 := eq_true q225
                                                  refine start_ (n := 33) (S := fun w' => w'.cell? ⟨gb218, 0, none⟩ = some (.int .i64 ((rd_T112 y213 x37_3).f0)) ∧ w'.cell? ⟨gb218, 1, none⟩ = some (.int .i64 ((rd_T112 y213 x37_3).f1)) ∧ w'.cell? ⟨gb212, 0, none⟩ = some (.int .i64 ((rd_T112 t208 x27_2).f0)) ∧ w'.cell? ⟨gb212, 1, none⟩ = some (.int .i64 ((rd_T112 t208 x27_2).f1)) ∧ w'.cell? (ad219.add (((rd_T112 y213 x37_3).f0)).toNat) = some (.int .i64 (rd t205 ((rd_T112 y213 x37_3).f0))) ∧ w'.cell? (ad219.add (((rd_T112 t208 x27_2).f0)).toNat) = some (.int .i64 (rd t205 ((rd_T112 t208 x27_2).f0))) ∧ w'.cell? (ad219.add (((rd_T112 t208 x27_2).f1)).toNat) = some (.int .i64 (rd t205 ((rd_T112 t208 x27_2).f1))) ∧ w'.cell? (ad219.add (((rd_T112 y213 x37_3).f1)).toNat) = some (.int .i64 (rd t205 ((rd_T112 y213 x37_3).f1))) ∧ w'.cell? (ad219.add (((rd_T112 t208 x27_2).f0)).toNat) = some (.int .i64 (rd t205 ((rd_T112 t208 x27_2).f0))) ∧ w'.cell? (ad219.add (((rd_T112 t208 x27_2).f1)).toNat) = some (.int .i64 (rd t205 ((rd_T112 t208 x27_2).f1)))) (ds := []) #[false, false, false, false, false, false, false, false, false, false, false, false, false, false, false, false, false, false, false, false, false, false, false, false, false, false, false, false, false, false, false, false, false] (by kernel_rfl) rfl rfl ⟨(blk_cell BK218.out 0).trans rfl, (blk_cell BK218.out 1).trans rfl, (blk_cell BK212.out 0).trans rfl, (blk_cell BK212.out 1).trans rfl, hx219_0, hx220_0, hx221_0, hx223_0, hx224_0, hx225_0⟩ (fun hHeld => ?_); refine with_tabW impl_crossing.tab12 impl_crossing.bits12 (fun HT_ HW_ => ?_)
                                                  generalize w37.drew = w38 at HO_8 HO_10 HO_25 BK212 BK218 HB hx219_0 hx220_0 hx221_0 hx223_0 hx224_0 hx225_0 hHeld ⊢
                                                  refine pure_ (i := 0) (N := some 41) (v := ?_) (a' := ?_) #[true, false, false, false, false, false, false, false, false, false, false, false, false, false, false, false, false, false, false, false, false, false, false, false, false, false, false, false, false, false, false, false, false] rfl rfl (any_of HT_.out (by kernel_rfl)) (fun _ _ _ h => h) (Or.inl ⟨by rfl, ?_⟩) ?_ ?_
                                                  rotate_left
                                                  · intro w'
                                                    go_simp
                                                    with_reducible rfl
                                                  rotate_left
                                                  · simp only [Act.put, List.setIfInBounds_toArray, List.set_cons_zero, List.set_cons_succ, i64_w, i32_w]
                                                    rfl
                                                  refine pure_ (i := 1) (N := some 42) (v := ?_) (a' := ?_) #[true, true, false, false, false, false, false, false, false, false, false, false, false, false, false, false, false, false, false, false, false, false, false, false, false, false, false, false, false, false, false, false, false] rfl rfl (any_of HT_.out (by kernel_rfl)) (fun _ _ _ h => h) (Or.inl ⟨by rfl, ?_⟩) ?_ ?_
                                                  rotate_left
                                                  · intro w'
                                                    go_simp
                                                    with_reducible rfl
                                                  rotate_left
                                                  · simp only [Act.put, List.setIfInBounds_toArray, List.set_cons_zero, List.set_cons_succ, i64_w, i32_w]
                                                    rfl
                                                  refine pure_ (i := 5) (N := some 46) (v := ?_) (a' := ?_) #[true, true, false, false, false, true, false, false, false, false, false, false, false, false, false, false, false, false, false, false, false, false, false, false, false, false, false, false, false, false, false, false, false] rfl rfl (any_of HT_.out (by kernel_rfl)) (fun _ _ _ h => h) (Or.inl ⟨by rfl, ?_⟩) ?_ ?_
                                                  rotate_left
                                                  · intro w'
                                                    go_simp
                                                    with_reducible rfl
                                                  rotate_left
                                                  · simp only [Act.put, List.setIfInBounds_toArray, List.set_cons_zero, List.set_cons_succ, i64_w, i32_w]
                                                    rfl
                                                  refine pure_ (i := 6) (N := some 47) (v := ?_) (a' := ?_) #[true, true, false, false, false, true, true, false, false, false, false, false, false, false, false, false, false, false, false, false, false, false, false, false, false, false, false, false, false, false, false, false, false] rfl rfl (any_of HT_.out (by kernel_rfl)) (fun _ _ _ h => h) (Or.inl ⟨by rfl, ?_⟩) ?_ ?_
                                                  rotate_left
                                                  · intro w'
                                                    go_simp
                                                    with_reducible rfl
                                                  rotate_left
                                                  · simp only [Act.put, List.setIfInBounds_toArray, List.set_cons_zero, List.set_cons_succ, i64_w, i32_w]
                                                    rfl
                                                  refine pure_ (i := 10) (N := some 51) (v := ?_) (a' := ?_) #[true, true, false, false, false, true, true, false, false, false, true, false, false, false, false, false, false, false, false, false, false, false, false, false, false, false, false, false, false, false, false, false, false] rfl rfl (any_of HT_.out (by kernel_rfl)) (fun _ _ _ h => h) (Or.inl ⟨by rfl, ?_⟩) ?_ ?_
                                                  rotate_left
                                                  · intro w'
                                                    go_simp
                                                    with_reducible rfl
                                                  rotate_left
                                                  · simp only [Act.put, List.setIfInBounds_toArray, List.set_cons_zero, List.set_cons_succ, i64_w, i32_w]
                                                    rfl
                                                  refine pure_ (i := 11) (N := some 52) (v := ?_) (a' := ?_) #[true, true, false, false, false, true, true, false, false, false, true, true, false, false, false, false, false, false, false, false, false, false, false, false, false, false, false, false, false, false, false, false, false] rfl rfl (any_of HT_.out (by kernel_rfl)) (fun _ _ _ h => h) (Or.inl ⟨by rfl, ?_⟩) ?_ ?_
                                                  rotate_left
                                                  · intro w'
                                                    go_simp
                                                    with_reducible rfl
                                                  rotate_left
                                                  · simp only [Act.put, List.setIfInBounds_toArray, List.set_cons_zero, List.set_cons_succ, i64_w, i32_w]
                                                    rfl
                                                  refine pure_ (i := 16) (N := some 57) (v := ?_) (a' := ?_) #[true, true, false, false, false, true, true, false, false, false, true, true, false, false, false, false, true, false, false, false, false, false, false, false, false, false, false, false, false, false, false, false, false] rfl rfl (any_of HT_.out (by kernel_rfl)) (fun _ _ _ h => h) (Or.inl ⟨by rfl, ?_⟩) ?_ ?_
                                                  rotate_left
                                                  · intro w'
                                                    go_simp
                                                    with_reducible rfl
                                                  rotate_left
                                                  · simp only [Act.put, List.setIfInBounds_toArray, List.set_cons_zero, List.set_cons_succ, i64_w, i32_w]
                                                    rfl
                                                  refine pure_ (i := 17) (N := some 58) (v := ?_) (a' := ?_) #[true, true, false, false, false, true, true, false, false, false, true, true, false, false, false, false, true, true, false, false, false, false, false, false, false, false, false, false, false, false, false, false, false] rfl rfl (any_of HT_.out (by kernel_rfl)) (fun _ _ _ h => h) (Or.inl ⟨by rfl, ?_⟩) ?_ ?_
                                                  rotate_left
                                                  · intro w'
                                                    go_simp
                                                    with_reducible rfl
                                                  rotate_left
                                                  · simp only [Act.put, List.setIfInBounds_toArray, List.set_cons_zero, List.set_cons_succ, i64_w, i32_w]
                                                    rfl
                                                  refine pure_ (i := 21) (N := some 62) (v := ?_) (a' := ?_) #[true, true, false, false, false, true, true, false, false, false, true, true, false, false, false, false, true, true, false, false, false, true, false, false, false, false, false, false, false, false, false, false, false] rfl rfl (any_of HT_.out (by kernel_rfl)) (fun _ _ _ h => h) (Or.inl ⟨by rfl, ?_⟩) ?_ ?_
                                                  rotate_left
                                                  · intro w'
                                                    go_simp
                                                    with_reducible rfl
                                                  rotate_left
                                                  · simp only [Act.put, List.setIfInBounds_toArray, List.set_cons_zero, List.set_cons_succ, i64_w, i32_w]
                                                    rfl
                                                  refine pure_ (i := 22) (N := some 63) (v := ?_) (a' := ?_) #[true, true, false, false, false, true, true, false, false, false, true, true, false, false, false, false, true, true, false, false, false, true, true, false, false, false, false, false, false, false, false, false, false] rfl rfl (any_of HT_.out (by kernel_rfl)) (fun _ _ _ h => h) (Or.inl ⟨by rfl, ?_⟩) ?_ ?_
                                                  rotate_left
                                                  · intro w'
                                                    go_simp
                                                    with_reducible rfl
                                                  rotate_left
                                                  · simp only [Act.put, List.setIfInBounds_toArray, List.set_cons_zero, List.set_cons_succ, i64_w, i32_w]
                                                    rfl
                                                  refine pure_ (i := 26) (N := some 67) (v := ?_) (a' := ?_) #[true, true, false, false, false, true, true, false, false, false, true, true, false, false, false, false, true, true, false, false, false, true, true, false, false, false, true, false, false, false, false, false, false] rfl rfl (any_of HT_.out (by kernel_rfl)) (fun _ _ _ h => h) (Or.inl ⟨by rfl, ?_⟩) ?_ ?_
                                                  rotate_left
                                                  · intro w'
                                                    go_simp
                                                    with_reducible rfl
                                                  rotate_left
                                                  · simp only [Act.put, List.setIfInBounds_toArray, List.set_cons_zero, List.set_cons_succ, i64_w, i32_w]
                                                    rfl
                                                  refine pure_ (i := 27) (N := some 68) (v := ?_) (a' := ?_) #[true, true, false, false, false, true, true, false, false, false, true, true, false, false, false, false, true, true, false, false, false, true, true, false, false, false, true, true, false, false, false, false, false] rfl rfl (any_of HT_.out (by kernel_rfl)) (fun _ _ _ h => h) (Or.inl ⟨by rfl, ?_⟩) ?_ ?_
                                                  rotate_left
                                                  · intro w'
                                                    go_simp
                                                    with_reducible rfl
                                                  rotate_left
                                                  · simp only [Act.put, List.setIfInBounds_toArray, List.set_cons_zero, List.set_cons_succ, i64_w, i32_w]
                                                    rfl
                                                  refine take_ (i := 2) (N := some 43) (v := ?_) (a' := ?_) #[true, true, true, false, false, true, true, false, false, false, true, true, false, false, false, false, true, true, false, false, false, true, true, false, false, false, true, true, false, false, false, false, false] rfl rfl (take_ofW HT_.out HW_.out (by kernel_rfl)) (fun _ _ _ h => h) (Or.inl ⟨by rfl, ?_⟩) hHeld ?_ ?_
                                                  rotate_left
                                                  · rintro w' ⟨s0, s1, s2, s3, s4, s5, s6, s7, s8, s9⟩
                                                    go_simp
                                                    with_reducible rfl
                                                  rotate_left
                                                  · simp only [Act.put, List.setIfInBounds_toArray, List.set_cons_zero, List.set_cons_succ, i64_w, i32_w]
                                                    rfl
                                                  refine pure_ (i := 3) (N := some 44) (v := ?_) (a' := ?_) #[true, true, true, true, false, true, true, false, false, false, true, true, false, false, false, false, true, true, false, false, false, true, true, false, false, false, true, true, false, false, false, false, false] rfl rfl (any_of HT_.out (by kernel_rfl)) (fun _ _ _ h => h) (Or.inl ⟨by rfl, ?_⟩) ?_ ?_
                                                  rotate_left
                                                  · intro w'
                                                    go_simp
                                                    with_reducible rfl
                                                  rotate_left
                                                  · simp only [Act.put, List.setIfInBounds_toArray, List.set_cons_zero, List.set_cons_succ, i64_w, i32_w]
                                                    rfl
                                                  refine take_ (i := 4) (N := some 45) (v := ?_) (a' := ?_) #[true, true, true, true, true, true, true, false, false, false, true, true, false, false, false, false, true, true, false, false, false, true, true, false, false, false, true, true, false, false, false, false, false] rfl rfl (take_ofW HT_.out HW_.out (by kernel_rfl)) (fun _ _ _ h => h) (Or.inl ⟨by rfl, ?_⟩) hHeld ?_ ?_
                                                  rotate_left
                                                  · rintro w' ⟨s0, s1, s2, s3, s4, s5, s6, s7, s8, s9⟩
                                                    go_simp
                                                    with_reducible rfl
                                                  rotate_left
                                                  · simp only [Act.put, List.setIfInBounds_toArray, List.set_cons_zero, List.set_cons_succ, i64_w, i32_w]
                                                    rfl
                                                  refine take_ (i := 7) (N := some 48) (v := ?_) (a' := ?_) #[true, true, true, true, true, true, true, true, false, false, true, true, false, false, false, false, true, true, false, false, false, true, true, false, false, false, true, true, false, false, false, false, false] rfl rfl (take_ofW HT_.out HW_.out (by kernel_rfl)) (fun _ _ _ h => h) (Or.inl ⟨by rfl, ?_⟩) hHeld ?_ ?_
                                                  rotate_left
                                                  · rintro w' ⟨s0, s1, s2, s3, s4, s5, s6, s7, s8, s9⟩
                                                    go_simp
                                                    with_reducible rfl
                                                  rotate_left
                                                  · simp only [Act.put, List.setIfInBounds_toArray, List.set_cons_zero, List.set_cons_succ, i64_w, i32_w]
                                                    rfl
                                                  refine pure_ (i := 8) (N := some 49) (v := ?_) (a' := ?_) #[true, true, true, true, true, true, true, true, true, false, true, true, false, false, false, false, true, true, false, false, false, true, true, false, false, false, true, true, false, false, false, false, false] rfl rfl (any_of HT_.out (by kernel_rfl)) (fun _ _ _ h => h) (Or.inl ⟨by rfl, ?_⟩) ?_ ?_
                                                  rotate_left
                                                  · intro w'
                                                    go_simp
                                                    with_reducible rfl
                                                  rotate_left
                                                  · simp only [Act.put, List.setIfInBounds_toArray, List.set_cons_zero, List.set_cons_succ, i64_w, i32_w]
                                                    rfl
                                                  refine take_ (i := 9) (N := some 50) (v := ?_) (a' := ?_) #[true, true, true, true, true, true, true, true, true, true, true, true, false, false, false, false, true, true, false, false, false, true, true, false, false, false, true, true, false, false, false, false, false] rfl rfl (take_ofW HT_.out HW_.out (by kernel_rfl)) (fun _ _ _ h => h) (Or.inl ⟨by rfl, ?_⟩) hHeld ?_ ?_
                                                  rotate_left
                                                  · rintro w' ⟨s0, s1, s2, s3, s4, s5, s6, s7, s8, s9⟩
                                                    go_simp
                                                    with_reducible rfl
                                                  rotate_left
                                                  · simp only [Act.put, List.setIfInBounds_toArray, List.set_cons_zero, List.set_cons_succ, i64_w, i32_w]
                                                    rfl
                                                  refine take_ (i := 12) (N := some 53) (v := ?_) (a' := ?_) #[true, true, true, true, true, true, true, true, true, true, true, true, true, false, false, false, true, true, false, false, false, true, true, false, false, false, true, true, false, false, false, false, false] rfl rfl (take_ofW HT_.out HW_.out (by kernel_rfl)) (fun _ _ _ h => h) (Or.inl ⟨by rfl, ?_⟩) hHeld ?_ ?_
                                                  rotate_left
                                                  · rintro w' ⟨s0, s1, s2, s3, s4, s5, s6, s7, s8, s9⟩
                                                    go_simp
                                                    with_reducible rfl
                                                  rotate_left
                                                  · simp only [Act.put, List.setIfInBounds_toArray, List.set_cons_zero, List.set_cons_succ, i64_w, i32_w]
                                                    rfl
                                                  refine pure_ (i := 13) (N := some 54) (v := ?_) (a' := ?_) #[true, true, true, true, true, true, true, true, true, true, true, true, true, true, false, false, true, true, false, false, false, true, true, false, false, false, true, true, false, false, false, false, false] rfl rfl (any_of HT_.out (by kernel_rfl)) (fun _ _ _ h => h) (Or.inl ⟨by rfl, ?_⟩) ?_ ?_
                                                  rotate_left
                                                  · intro w'
                                                    go_simp
                                                    with_reducible rfl
                                                  rotate_left
                                                  · simp only [Act.put, List.setIfInBounds_toArray, List.set_cons_zero, List.set_cons_succ, i64_w, i32_w]
                                                    rfl
                                                  refine take_ (i := 14) (N := some 55) (v := ?_) (a' := ?_) #[true, true, true, true, true, true, true, true, true, true, true, true, true, true, true, false, true, true, false, false, false, true, true, false, false, false, true, true, false, false, false, false, false] rfl rfl (take_ofW HT_.out HW_.out (by kernel_rfl)) (fun _ _ _ h => h) (Or.inl ⟨by rfl, ?_⟩) hHeld ?_ ?_
                                                  rotate_left
                                                  · rintro w' ⟨s0, s1, s2, s3, s4, s5, s6, s7, s8, s9⟩
                                                    go_simp
                                                    with_reducible rfl
                                                  rotate_left
                                                  · simp only [Act.put, List.setIfInBounds_toArray, List.set_cons_zero, List.set_cons_succ, i64_w, i32_w]
                                                    rfl
                                                  refine take_ (i := 18) (N := some 59) (v := ?_) (a' := ?_) #[true, true, true, true, true, true, true, true, true, true, true, true, true, true, true, false, true, true, true, false, false, true, true, false, false, false, true, true, false, false, false, false, false] rfl rfl (take_ofW HT_.out HW_.out (by kernel_rfl)) (fun _ _ _ h => h) (Or.inl ⟨by rfl, ?_⟩) hHeld ?_ ?_
                                                  rotate_left
                                                  · rintro w' ⟨s0, s1, s2, s3, s4, s5, s6, s7, s8, s9⟩
                                                    go_simp
                                                    with_reducible rfl
                                                  rotate_left
                                                  · simp only [Act.put, List.setIfInBounds_toArray, List.set_cons_zero, List.set_cons_succ, i64_w, i32_w]
                                                    rfl
                                                  refine pure_ (i := 19) (N := some 60) (v := ?_) (a' := ?_) #[true, true, true, true, true, true, true, true, true, true, true, true, true, true, true, false, true, true, true, true, false, true, true, false, false, false, true, true, false, false, false, false, false] rfl rfl (any_of HT_.out (by kernel_rfl)) (fun _ _ _ h => h) (Or.inl ⟨by rfl, ?_⟩) ?_ ?_
                                                  rotate_left
                                                  · intro w'
                                                    go_simp
                                                    with_reducible rfl
                                                  rotate_left
                                                  · simp only [Act.put, List.setIfInBounds_toArray, List.set_cons_zero, List.set_cons_succ, i64_w, i32_w]
                                                    rfl
                                                  refine take_ (i := 20) (N := some 61) (v := ?_) (a' := ?_) #[true, true, true, true, true, true, true, true, true, true, true, true, true, true, true, false, true, true, true, true, true, true, true, false, false, false, true, true, false, false, false, false, false] rfl rfl (take_ofW HT_.out HW_.out (by kernel_rfl)) (fun _ _ _ h => h) (Or.inl ⟨by rfl, ?_⟩) hHeld ?_ ?_
                                                  rotate_left
                                                  · rintro w' ⟨s0, s1, s2, s3, s4, s5, s6, s7, s8, s9⟩
                                                    go_simp
                                                    with_reducible rfl
                                                  rotate_left
                                                  · simp only [Act.put, List.setIfInBounds_toArray, List.set_cons_zero, List.set_cons_succ, i64_w, i32_w]
                                                    rfl
                                                  refine take_ (i := 23) (N := some 64) (v := ?_) (a' := ?_) #[true, true, true, true, true, true, true, true, true, true, true, true, true, true, true, false, true, true, true, true, true, true, true, true, false, false, true, true, false, false, false, false, false] rfl rfl (take_ofW HT_.out HW_.out (by kernel_rfl)) (fun _ _ _ h => h) (Or.inl ⟨by rfl, ?_⟩) hHeld ?_ ?_
                                                  rotate_left
                                                  · rintro w' ⟨s0, s1, s2, s3, s4, s5, s6, s7, s8, s9⟩
                                                    go_simp
                                                    with_reducible rfl
                                                  rotate_left
                                                  · simp only [Act.put, List.setIfInBounds_toArray, List.set_cons_zero, List.set_cons_succ, i64_w, i32_w]
                                                    rfl
                                                  refine pure_ (i := 24) (N := some 65) (v := ?_) (a' := ?_) #[true, true, true, true, true, true, true, true, true, true, true, true, true, true, true, false, true, true, true, true, true, true, true, true, true, false, true, true, false, false, false, false, false] rfl rfl (any_of HT_.out (by kernel_rfl)) (fun _ _ _ h => h) (Or.inl ⟨by rfl, ?_⟩) ?_ ?_
                                                  rotate_left
                                                  · intro w'
                                                    go_simp
                                                    with_reducible rfl
                                                  rotate_left
                                                  · simp only [Act.put, List.setIfInBounds_toArray, List.set_cons_zero, List.set_cons_succ, i64_w, i32_w]
                                                    rfl
                                                  refine take_ (i := 25) (N := some 66) (v := ?_) (a' := ?_) #[true, true, true, true, true, true, true, true, true, true, true, true, true, true, true, false, true, true, true, true, true, true, true, true, true, true, true, true, false, false, false, false, false] rfl rfl (take_ofW HT_.out HW_.out (by kernel_rfl)) (fun _ _ _ h => h) (Or.inl ⟨by rfl, ?_⟩) hHeld ?_ ?_
                                                  rotate_left
                                                  · rintro w' ⟨s0, s1, s2, s3, s4, s5, s6, s7, s8, s9⟩
                                                    go_simp
                                                    with_reducible rfl
                                                  rotate_left
                                                  · simp only [Act.put, List.setIfInBounds_toArray, List.set_cons_zero, List.set_cons_succ, i64_w, i32_w]
                                                    rfl
                                                  refine take_ (i := 28) (N := some 69) (v := ?_) (a' := ?_) #[true, true, true, true, true, true, true, true, true, true, true, true, true, true, true, false, true, true, true, true, true, true, true, true, true, true, true, true, true, false, false, false, false] rfl rfl (take_ofW HT_.out HW_.out (by kernel_rfl)) (fun _ _ _ h => h) (Or.inl ⟨by rfl, ?_⟩) hHeld ?_ ?_
                                                  rotate_left
                                                  · rintro w' ⟨s0, s1, s2, s3, s4, s5, s6, s7, s8, s9⟩
                                                    go_simp
                                                    with_reducible rfl
                                                  rotate_left
                                                  · simp only [Act.put, List.setIfInBounds_toArray, List.set_cons_zero, List.set_cons_succ, i64_w, i32_w]
                                                    rfl
                                                  refine pure_ (i := 29) (N := some 70) (v := ?_) (a' := ?_) #[true, true, true, true, true, true, true, true, true, true, true, true, true, true, true, false, true, true, true, true, true, true, true, true, true, true, true, true, true, true, false, false, false] rfl rfl (any_of HT_.out (by kernel_rfl)) (fun _ _ _ h => h) (Or.inl ⟨by rfl, ?_⟩) ?_ ?_
                                                  rotate_left
                                                  · intro w'
                                                    go_simp
                                                    with_reducible rfl
                                                  rotate_left
                                                  · simp only [Act.put, List.setIfInBounds_toArray, List.set_cons_zero, List.set_cons_succ, i64_w, i32_w]
                                                    rfl
                                                  refine take_ (i := 30) (N := some 71) (v := ?_) (a' := ?_) #[true, true, true, true, true, true, true, true, true, true, true, true, true, true, true, false, true, true, true, true, true, true, true, true, true, true, true, true, true, true, true, false, false] rfl rfl (take_ofW HT_.out HW_.out (by kernel_rfl)) (fun _ _ _ h => h) (Or.inl ⟨by rfl, ?_⟩) hHeld ?_ ?_
                                                  rotate_left
                                                  · rintro w' ⟨s0, s1, s2, s3, s4, s5, s6, s7, s8, s9⟩
                                                    go_simp
                                                    with_reducible rfl
                                                  rotate_left
                                                  · simp only [Act.put, List.setIfInBounds_toArray, List.set_cons_zero, List.set_cons_succ, i64_w, i32_w]
                                                    rfl
                                                  refine one_ (i := 15) (N := some 56) #[true, true, true, true, true, true, true, true, true, true, true, true, true, true, true, true, true, true, true, true, true, true, true, true, true, true, true, true, true, true, true, false, false] rfl rfl (one_of HT_.out (by kernel_rfl)) (by decide) (fun K hK => ?_)
                                                  refine goes_ Try.func142 (by kernel_rfl) rfl #[.int .i64 (rd t205 ((rd_T112 y213 x37_3).f0)), .int .i64 (rd t205 ((rd_T112 t208 x27_2).f0)), .int .i64 (rd t205 ((rd_T112 t208 x27_2).f1))] (by rfl) rfl rfl (by (try simp only [List.map_toArray, List.map_cons, List.map_nil]); first | done | rfl | (simp only [List.length_drop, List.length_take]; rfl)) ?_
                                                  with_reducible refine (impl_isAmong.calls (rd t205 ((rd_T112 y213 x37_3).f0)) (rd t205 ((rd_T112 t208 x27_2).f0)) (rd t205 ((rd_T112 t208 x27_2).f1)) t222 _ A29.out).mono ?_
                                                  rintro e w40 ⟨rfl, hb⟩
                                                  have HS4_ := (hb.cell (World.block_lt_of_cell? _ _ (hHeld.2.2.2.2.1))).trans (hHeld.2.2.2.2.1)
                                                  have HS5_ := (hb.cell (World.block_lt_of_cell? _ _ (hHeld.2.2.2.2.2.1))).trans (hHeld.2.2.2.2.2.1)
                                                  have HS6_ := (hb.cell (World.block_lt_of_cell? _ _ (hHeld.2.2.2.2.2.2.1))).trans (hHeld.2.2.2.2.2.2.1)
                                                  have HS7_ := (hb.cell (World.block_lt_of_cell? _ _ (hHeld.2.2.2.2.2.2.2.1))).trans (hHeld.2.2.2.2.2.2.2.1)
                                                  have HS8_ := (hb.cell (World.block_lt_of_cell? _ _ (hHeld.2.2.2.2.2.2.2.2.1))).trans (hHeld.2.2.2.2.2.2.2.2.1)
                                                  have HS9_ := (hb.cell (World.block_lt_of_cell? _ _ (hHeld.2.2.2.2.2.2.2.2.2))).trans (hHeld.2.2.2.2.2.2.2.2.2)
                                                  refine ⟨_, rfl, ?_⟩
                                                  replace HO_8 := Aside0.mk (Kd.R_below (ra (h := HO_8.out)) hb)
                                                  replace HO_10 := Aside0.mk (Kd.R_below (ra (h := HO_10.out)) hb)
                                                  replace HO_25 := Aside0.mk (Kd.R_below (ra (h := HO_25.out)) hb)
                                                  replace BK212 := bb BK212 hb
                                                  replace BK218 := bb BK218 hb
                                                  replace HB := bs hb
                                                  (try clear hb)
                                                  (try clear hb2)
                                                  (try clear hk)
                                                  (try clear hi)
                                                  refine hK.out _ _ ⟨(blk_cell BK218.out 0).trans rfl, (blk_cell BK218.out 1).trans rfl, (blk_cell BK212.out 0).trans rfl, (blk_cell BK212.out 1).trans rfl, HS4_, HS5_, HS6_, HS7_, HS8_, HS9_⟩ (fun hHeld => ?_)
                                                  clear hK K
                                                  refine norm_ (a' := ?_) ?_ ?_
                                                  rotate_left
                                                  · show Act.put _ (some 56) _ = _
                                                    simp only [Act.put, List.setIfInBounds_toArray, List.set_cons_zero, List.set_cons_succ, i64_w, i32_w]
                                                    rfl
                                                  refine one_ (i := 31) (N := some 72) #[true, true, true, true, true, true, true, true, true, true, true, true, true, true, true, true, true, true, true, true, true, true, true, true, true, true, true, true, true, true, true, true, false] rfl rfl (one_of HT_.out (by kernel_rfl)) (by decide) (fun K hK => ?_)
                                                  refine goes_ Try.func142 (by kernel_rfl) rfl #[.int .i64 (rd t205 ((rd_T112 y213 x37_3).f1)), .int .i64 (rd t205 ((rd_T112 t208 x27_2).f0)), .int .i64 (rd t205 ((rd_T112 t208 x27_2).f1))] (by rfl) rfl rfl (by (try simp only [List.map_toArray, List.map_cons, List.map_nil]); first | done | rfl | (simp only [List.length_drop, List.length_take]; rfl)) ?_
                                                  with_reducible refine (impl_isAmong.calls (rd t205 ((rd_T112 y213 x37_3).f1)) (rd t205 ((rd_T112 t208 x27_2).f0)) (rd t205 ((rd_T112 t208 x27_2).f1)) t226 _ A32.out).mono ?_
                                                  rintro e w41 ⟨rfl, hb⟩
                                                  have HS4_ := (hb.cell (World.block_lt_of_cell? _ _ (hHeld.2.2.2.2.1))).trans (hHeld.2.2.2.2.1)
                                                  have HS5_ := (hb.cell (World.block_lt_of_cell? _ _ (hHeld.2.2.2.2.2.1))).trans (hHeld.2.2.2.2.2.1)
                                                  have HS6_ := (hb.cell (World.block_lt_of_cell? _ _ (hHeld.2.2.2.2.2.2.1))).trans (hHeld.2.2.2.2.2.2.1)
                                                  have HS7_ := (hb.cell (World.block_lt_of_cell? _ _ (hHeld.2.2.2.2.2.2.2.1))).trans (hHeld.2.2.2.2.2.2.2.1)
                                                  have HS8_ := (hb.cell (World.block_lt_of_cell? _ _ (hHeld.2.2.2.2.2.2.2.2.1))).trans (hHeld.2.2.2.2.2.2.2.2.1)
                                                  have HS9_ := (hb.cell (World.block_lt_of_cell? _ _ (hHeld.2.2.2.2.2.2.2.2.2))).trans (hHeld.2.2.2.2.2.2.2.2.2)
                                                  refine ⟨_, rfl, ?_⟩
                                                  replace HO_8 := Aside0.mk (Kd.R_below (ra (h := HO_8.out)) hb)
                                                  replace HO_10 := Aside0.mk (Kd.R_below (ra (h := HO_10.out)) hb)
                                                  replace HO_25 := Aside0.mk (Kd.R_below (ra (h := HO_25.out)) hb)
                                                  replace BK212 := bb BK212 hb
                                                  replace BK218 := bb BK218 hb
                                                  replace HB := bs hb
                                                  (try clear hb)
                                                  (try clear hb2)
                                                  (try clear hk)
                                                  (try clear hi)
                                                  refine hK.out _ _ ⟨(blk_cell BK218.out 0).trans rfl, (blk_cell BK218.out 1).trans rfl, (blk_cell BK212.out 0).trans rfl, (blk_cell BK212.out 1).trans rfl, HS4_, HS5_, HS6_, HS7_, HS8_, HS9_⟩ (fun hHeld => ?_)
                                                  clear hK K
                                                  refine norm_ (a' := ?_) ?_ ?_
                                                  rotate_left
                                                  · show Act.put _ (some 72) _ = _
                                                    simp only [Act.put, List.setIfInBounds_toArray, List.set_cons_zero, List.set_cons_succ, i64_w, i32_w]
                                                    rfl
                                                  refine pure_ (i := 32) (N := some 73) (v := ?_) (a' := ?_) #[true, true, true, true, true, true, true, true, true, true, true, true, true, true, true, true, true, true, true, true, true, true, true, true, true, true, true, true, true, true, true, true, true] rfl rfl (any_of HT_.out (by kernel_rfl)) (fun _ _ _ h => h) (Or.inl ⟨by rfl, ?_⟩) ?_ ?_
                                                  rotate_left
                                                  · intro w'
                                                    go_simp
                                                    with_reducible rfl
                                                  rotate_left
                                                  · simp only [Act.put, List.setIfInBounds_toArray, List.set_cons_zero, List.set_cons_succ, i64_w, i32_w]
                                                    rfl
                                                  refine done_ (done_of HT_.out (by kernel_rfl)) ?_
                                                  obtain ⟨z42_0, z42_1, y42_0, y42_1⟩ := bq2 BK212
                                                  obtain ⟨z43_0, z43_1, y43_0, y43_1⟩ := bq2 BK218
                                                  try go_wp2_with (first | ((with_reducible refine gate_dst (N := 76) rfl ?_); refine Kd.R_lit k112 _ 112 ?hg (N := 76) ?hd (xs := ([(⟨((rd_T112 t208 x27_2).f0), ((rd_T112 t208 x27_2).f1)⟩ : S112), (⟨(rd_T112 y213 x37_3).f0, (rd_T112 y213 x37_3).f1⟩ : S112)] : List (S112))) (inner := [.int .i64 ((rd_T112 t208 x27_2).f0), .int .i64 ((rd_T112 t208 x27_2).f1), .int .i64 ((rd_T112 y213 x37_3).f0), .int .i64 ((rd_T112 y213 x37_3).f1)]) (ok := fun _ => True) (okp := fun _ => True) ?hr ?hp (fun _ hk => hk) trivial (Below.refl _ _) (Nat.le_refl _) (by simp) ?_; (case hd => rfl); (case hg => rfl); (case hr => first | (go_simp; done) | (go_simp; rfl)); (case hp => exact (Reps.c2 (show Kd.M k112 _ _ _ (⟨((rd_T112 t208 x27_2).f0), ((rd_T112 t208 x27_2).f1)⟩ : S112) [.int .i64 ((rd_T112 t208 x27_2).f0), .int .i64 ((rd_T112 t208 x27_2).f1)] from (k112_mkM _ _ _ (⟨((rd_T112 t208 x27_2).f0), ((rd_T112 t208 x27_2).f1)⟩ : S112) )) (Reps.c2 (show Kd.M k112 _ _ _ (⟨(rd_T112 y213 x37_3).f0, (rd_T112 y213 x37_3).f1⟩ : S112) [.int .i64 ((rd_T112 y213 x37_3).f0), .int .i64 ((rd_T112 y213 x37_3).f1)] from (k112_mkM _ _ _ (⟨(rd_T112 y213 x37_3).f0, (rd_T112 y213 x37_3).f1⟩ : S112) )) (Reps.none _ _)))); intro v228 w44 ho45 hb hg_ hnew_; clear hg_ hnew_; (first | rw [← Ny227.out] at ho45 | (simp only [Int.reduceToNat] at ho45; rw [← Ny227.out] at ho45)); have HO229 := Aside0.mk (Kd.R_lower (Kd.R_newB (Kd.R_newB (Kd.R_new' (Kd.R_new' ho45 (Kd.R_lt (ra (h := HO_10.out)))) (Kd.R_lt (ra (h := HO_25.out)))) (g := gb212) (o := .cells #[.int .i64 ((rd_T112 t208 x27_2).f0), .int .i64 ((rd_T112 t208 x27_2).f1)] 112 (0, 0)) (by refine bk (h := ?_); exact BK212.out)) (g := gb218) (o := .cells #[.int .i64 ((rd_T112 y213 x37_3).f0), .int .i64 ((rd_T112 y213 x37_3).f1)] 112 (0, 0)) (by refine bk (h := ?_); exact BK218.out)) (below_size bw)); replace HO_8 := Aside0.mk (Kd.R_below (ra (h := HO_8.out)) hb); replace HO_10 := Aside0.mk (Kd.R_elder' (ra (h := HO_10.out)) (Kd.R_base ho45) hb); replace HO_25 := Aside0.mk (Kd.R_elder' (ra (h := HO_25.out)) (Kd.R_base ho45) hb); replace BK212 := bb BK212 hb; replace BK218 := bb BK218 hb; replace HB := bs hb; clear hb ho45))
                                                  go_ret2
                                                  exact ⟨_, by first | rfl | (simp [errW_none, errW_some] <;> rfl) | (simp only [← hji13]; first | rfl | (simp [errW_none, errW_some] <;> rfl)) | (simp [*, errW_none, errW_some] <;> rfl), by refine ra (h := ?_); exact Kd.R_mono HO229.out (fun _ hk => trivial), bw⟩
                                                · rw [if_neg c33] at H
                                                  have c33b0 : (t222 != t226) = false := by simpa using c33
                                                  (try (have c33b1 : decide (t222 = t226) = true := by simpa using c33))
                                                  (try (have c33b2 : (t222 == t226) = true := by simpa using c33))
                                                  clear c33
                                                  have H' := Aside0.mk H
                                                  clear H
                                                  have p217 : 0 ≤ (x37_3 : Int) := od
                                                  have q217 : x37_3 < (y213.length : Int) := od
                                                  obtain ⟨ad217, e217, hx217_0, hx217_1⟩ := at_T112 (show Kd.C k112 _ A19 y213.length y213 from by rw [Ny213.out, KA19.out]; exact Kd.C_drop (m := ((ji13) : Int).toNat) (c := co9) ((Kd.R_reads' HO_10.out).2.2) KL19.out ((Kd.R_reads' HO_10.out).2.1)) x37_3 p217 q217
                                                  cases e217
                                                  replace p217 := eq_true p217
                                                  replace q217 := eq_true q217
                                                  try go_wp2_with (first | ((with_reducible refine gate_dst (N := 14) rfl ?_); refine bx #[.int .i64 0, .int .i64 0] 112 ?_; intro gb218 hg w46 hbox hb; have BK218 := Aside0.mk hbox; have GW218 := bg hg; have GE218 := bg hg; have NB212_218 := bl BK212 hg; have NB218_212 := bv BK212 hg; replace HO_8 := Aside0.mk (Kd.R_below (ra (h := HO_8.out)) hb); replace HO_10 := Aside0.mk (Kd.R_below (Kd.R_elderB (ra (h := HO_10.out)) gb218 (Nat.le_of_eq hg.symm)) hb); replace HO_25 := Aside0.mk (Kd.R_below (Kd.R_elderB (ra (h := HO_25.out)) gb218 (Nat.le_of_eq hg.symm)) hb); replace BK212 := bb BK212 hb; replace HB := bs hb; clear hb hbox hg; have hnb47 := NB218_212.out; have hnc47 := NB212_218.out; obtain ⟨z48_0, z48_1, y48_0, y48_1⟩ := bq2 BK218))
                                                  have n0_ : Aside0 (Kd.R (Kd.int .i64) 2 ((w46.setCell ⟨gb218, 0, none⟩ (.int .i64 ((rd_T112 y213 x37_3).f0))).setCell ⟨gb218, 1, none⟩ (.int .i64 ((rd_T112 y213 x37_3).f1))) w.heap.size (fun _ => True) v206 t205) := ⟨by refine ra (h := ?_); exact Kd.R_mono (Kd.R_far (p := ⟨gb218, 1, none⟩) (Kd.R_far (p := ⟨gb218, 0, none⟩) (Kd.R_types HO_8.out BK218.out (by decide)) (fun _ hk => hk.2) (.int .i64 ((rd_T112 y213 x37_3).f0))) (fun _ hk => hk.2) (.int .i64 ((rd_T112 y213 x37_3).f1))) (fun _ hk => trivial)⟩
                                                  have n1_ : Aside0 (Kd.R k112 112 ((w46.setCell ⟨gb218, 0, none⟩ (.int .i64 ((rd_T112 y213 x37_3).f0))).setCell ⟨gb218, 1, none⟩ (.int .i64 ((rd_T112 y213 x37_3).f1))) w.heap.size (fun k_ => k_ ≠ gb212 ∧ k_ ≠ gb218) (.slice (some ad211) t208.length co9) t208) := ⟨by refine ra (h := ?_); exact Kd.R_mono (Kd.R_far (p := ⟨gb218, 1, none⟩) (Kd.R_far (p := ⟨gb218, 0, none⟩) (Kd.R_mono HO_10.out (fun k_ hk => (⟨hk, hk.2⟩ : _ ∧ k_ ≠ gb218))) (fun _ hk => hk.2) (.int .i64 ((rd_T112 y213 x37_3).f0))) (fun _ hk => hk.2) (.int .i64 ((rd_T112 y213 x37_3).f1))) (fun _ hk => ⟨hk.1.1, hk.1.2⟩)⟩
                                                  have n2_ : Aside0 (Kd.R k112 112 ((w46.setCell ⟨gb218, 0, none⟩ (.int .i64 ((rd_T112 y213 x37_3).f0))).setCell ⟨gb218, 1, none⟩ (.int .i64 ((rd_T112 y213 x37_3).f1))) w.heap.size (fun k_ => k_ ≠ gb212 ∧ k_ ≠ gb218) (.slice (some ad211) t208.length co9) t208) := ⟨by refine ra (h := ?_); exact Kd.R_mono (Kd.R_far (p := ⟨gb218, 1, none⟩) (Kd.R_far (p := ⟨gb218, 0, none⟩) (Kd.R_mono HO_25.out (fun k_ hk => (⟨hk, hk.2⟩ : _ ∧ k_ ≠ gb218))) (fun _ hk => hk.2) (.int .i64 ((rd_T112 y213 x37_3).f0))) (fun _ hk => hk.2) (.int .i64 ((rd_T112 y213 x37_3).f1))) (fun _ hk => ⟨hk.1.1, hk.1.2⟩)⟩
                                                  have n3_ : Aside0 (((w46.setCell ⟨gb218, 0, none⟩ (.int .i64 ((rd_T112 y213 x37_3).f0))).setCell ⟨gb218, 1, none⟩ (.int .i64 ((rd_T112 y213 x37_3).f1))).heap[gb212]? = some (.cells #[.int .i64 ((rd_T112 t208 x27_2).f0), .int .i64 ((rd_T112 t208 x27_2).f1)] 112 (0, 0))) := ⟨by refine bk (h := ?_); refine blk_far ?_ NB212_218.out _; refine bk (h := ?_); refine blk_far ?_ NB212_218.out _; refine bk (h := ?_); exact BK212.out⟩
                                                  have n4_ : Aside0 (((w46.setCell ⟨gb218, 0, none⟩ (.int .i64 ((rd_T112 y213 x37_3).f0))).setCell ⟨gb218, 1, none⟩ (.int .i64 ((rd_T112 y213 x37_3).f1))).heap[gb218]? = some (.cells #[.int .i64 ((rd_T112 y213 x37_3).f0), .int .i64 ((rd_T112 y213 x37_3).f1)] 112 (0, 0))) := ⟨by refine bk (h := ?_); refine blk_put (cs := #[.int .i64 ((rd_T112 y213 x37_3).f0), .int .i64 0]) ?_ 1 _ rfl; refine bk (h := ?_); refine blk_put (cs := #[.int .i64 0, .int .i64 0]) ?_ 0 _ rfl; refine bk (h := ?_); exact BK218.out⟩
                                                  have n5_ : Aside0 (Below w.heap.size w ((w46.setCell ⟨gb218, 0, none⟩ (.int .i64 ((rd_T112 y213 x37_3).f0))).setCell ⟨gb218, 1, none⟩ (.int .i64 ((rd_T112 y213 x37_3).f1)))) := ⟨bw⟩
                                                  (try clear HO_8)
                                                  (try clear HO_10)
                                                  (try clear HO_25)
                                                  (try clear BK212)
                                                  (try clear BK218)
                                                  (try clear HB)
                                                  generalize ((w46.setCell ⟨gb218, 0, none⟩ (.int .i64 ((rd_T112 y213 x37_3).f0))).setCell ⟨gb218, 1, none⟩ (.int .i64 ((rd_T112 y213 x37_3).f1))) = w49 at n0_ n1_ n2_ n3_ n4_ n5_ ⊢
                                                  have HO_8 := n0_
                                                  have HO_10 := n1_
                                                  have HO_25 := n2_
                                                  have BK212 := n3_
                                                  have BK218 := n4_
                                                  have HB := n5_
                                                  clear n0_ n1_ n2_ n3_ n4_ n5_
                                                  replace HO_8 := Aside0.mk (Kd.R_drew HO_8.out)
                                                  replace HO_10 := Aside0.mk (Kd.R_drew HO_10.out)
                                                  replace HO_25 := Aside0.mk (Kd.R_drew HO_25.out)
                                                  replace BK212 := Aside0.mk (blk_drew BK212.out)
                                                  replace BK218 := Aside0.mk (blk_drew BK218.out)
                                                  replace HB := Aside0.mk (below_drew1 HB.out)
                                                  obtain ⟨Ao51, co51, eo51⟩ := Kd.R_slice HO_8.out
                                                  (first | subst eo51 | (injection eo51 with f1_ f2_ f3_; have f4_ := f1_.symm; have f5_ := f3_.symm; clear f1_ f2_ f3_; subst f4_; subst f5_))
                                                  have p219 : 0 ≤ (((rd_T112 y213 x37_3).f0) : Int) := od
                                                  have q219 : ((rd_T112 y213 x37_3).f0) < (t205.length : Int) := od
                                                  obtain ⟨ad219, e219, hx219_0⟩ := Kd.at_int (Kd.R_reads' HO_8.out).2.2 ((rd_T112 y213 x37_3).f0) p219 q219
                                                  cases e219
                                                  replace p219 := eq_true p219
                                                  replace q219 := eq_true q219
                                                  have p220 : 0 ≤ (((rd_T112 t208 x27_2).f0) : Int) := od
                                                  have q220 : ((rd_T112 t208 x27_2).f0) < (t205.length : Int) := od
                                                  obtain ⟨ad220, e220, hx220_0⟩ := Kd.at_int (Kd.R_reads' HO_8.out).2.2 ((rd_T112 t208 x27_2).f0) p220 q220
                                                  obtain rfl : ad219 = ad220 := (by injection e220)
                                                  replace p220 := eq_true p220
                                                  replace q220 := eq_true q220
                                                  have p221 : 0 ≤ (((rd_T112 t208 x27_2).f1) : Int) := od
                                                  have q221 : ((rd_T112 t208 x27_2).f1) < (t205.length : Int) := od
                                                  obtain ⟨ad221, e221, hx221_0⟩ := Kd.at_int (Kd.R_reads' HO_8.out).2.2 ((rd_T112 t208 x27_2).f1) p221 q221
                                                  obtain rfl : ad219 = ad221 := (by injection e221)
                                                  replace p221 := eq_true p221
                                                  replace q221 := eq_true q221
                                                  have p223 : 0 ≤ (((rd_T112 y213 x37_3).f1) : Int) := od
                                                  have q223 : ((rd_T112 y213 x37_3).f1) < (t205.length : Int) := od
                                                  obtain ⟨ad223, e223, hx223_0⟩ := Kd.at_int (Kd.R_reads' HO_8.out).2.2 ((rd_T112 y213 x37_3).f1) p223 q223
                                                  obtain rfl : ad219 = ad223 := (by injection e223)
                                                  replace p223 := eq_true p223
                                                  replace q223 := eq_true q223
                                                  have p224 : 0 ≤ (((rd_T112 t208 x27_2).f0) : Int) := od
                                                  have q224 : ((rd_T112 t208 x27_2).f0) < (t205.length : Int) := od
                                                  obtain ⟨ad224, e224, hx224_0⟩ := Kd.at_int (Kd.R_reads' HO_8.out).2.2 ((rd_T112 t208 x27_2).f0) p224 q224
                                                  obtain rfl : ad219 = ad224 := (by injection e224)
                                                  replace p224 := eq_true p224
                                                  replace q224 := eq_true q224
                                                  have p225 : 0 ≤ (((rd_T112 t208 x27_2).f1) : Int) := od
                                                  have q225 : ((rd_T112 t208 x27_2).f1) < (t205.length : Int) := od
                                                  obtain ⟨ad225, e225, hx225_0⟩ := Kd.at_int (Kd.R_reads' HO_8.out).2.2 ((rd_T112 t208 x27_2).f1) p225 q225
                                                  obtain rfl : ad219 = ad225 := (by injection e225)
                                                  replace p225 := eq_true p225
                                                  replace q225 := eq_true q225
                                                  refine start_ (n := 33) (S := fun w' => w'.cell? ⟨gb218, 0, none⟩ = some (.int .i64 ((rd_T112 y213 x37_3).f0)) ∧ w'.cell? ⟨gb218, 1, none⟩ = some (.int .i64 ((rd_T112 y213 x37_3).f1)) ∧ w'.cell? ⟨gb212, 0, none⟩ = some (.int .i64 ((rd_T112 t208 x27_2).f0)) ∧ w'.cell? ⟨gb212, 1, none⟩ = some (.int .i64 ((rd_T112 t208 x27_2).f1)) ∧ w'.cell? (ad219.add (((rd_T112 y213 x37_3).f0)).toNat) = some (.int .i64 (rd t205 ((rd_T112 y213 x37_3).f0))) ∧ w'.cell? (ad219.add (((rd_T112 t208 x27_2).f0)).toNat) = some (.int .i64 (rd t205 ((rd_T112 t208 x27_2).f0))) ∧ w'.cell? (ad219.add (((rd_T112 t208 x27_2).f1)).toNat) = some (.int .i64 (rd t205 ((rd_T112 t208 x27_2).f1))) ∧ w'.cell? (ad219.add (((rd_T112 y213 x37_3).f1)).toNat) = some (.int .i64 (rd t205 ((rd_T112 y213 x37_3).f1))) ∧ w'.cell? (ad219.add (((rd_T112 t208 x27_2).f0)).toNat) = some (.int .i64 (rd t205 ((rd_T112 t208 x27_2).f0))) ∧ w'.cell? (ad219.add (((rd_T112 t208 x27_2).f1)).toNat) = some (.int .i64 (rd t205 ((rd_T112 t208 x27_2).f1)))) (ds := []) #[false, false, false, false, false, false, false, false, false, false, false, false, false, false, false, false, false, false, false, false, false, false, false, false, false, false, false, false, false, false, false, false, false] (by kernel_rfl) rfl rfl ⟨(blk_cell BK218.out 0).trans rfl, (blk_cell BK218.out 1).trans rfl, (blk_cell BK212.out 0).trans rfl, (blk_cell BK212.out 1).trans rfl, hx219_0, hx220_0, hx221_0, hx223_0, hx224_0, hx225_0⟩ (fun hHeld => ?_); refine with_tabW impl_crossing.tab12 impl_crossing.bits12 (fun HT_ HW_ => ?_)
                                                  generalize w49.drew = w50 at HO_8 HO_10 HO_25 BK212 BK218 HB hx219_0 hx220_0 hx221_0 hx223_0 hx224_0 hx225_0 hHeld ⊢
                                                  refine pure_ (i := 0) (N := some 41) (v := ?_) (a' := ?_) #[true, false, false, false, false, false, false, false, false, false, false, false, false, false, false, false, false, false, false, false, false, false, false, false, false, false, false, false, false, false, false, false, false] rfl rfl (any_of HT_.out (by kernel_rfl)) (fun _ _ _ h => h) (Or.inl ⟨by rfl, ?_⟩) ?_ ?_
                                                  rotate_left
                                                  · intro w'
                                                    go_simp
                                                    with_reducible rfl
                                                  rotate_left
                                                  · simp only [Act.put, List.setIfInBounds_toArray, List.set_cons_zero, List.set_cons_succ, i64_w, i32_w]
                                                    rfl
                                                  refine pure_ (i := 1) (N := some 42) (v := ?_) (a' := ?_) #[true, true, false, false, false, false, false, false, false, false, false, false, false, false, false, false, false, false, false, false, false, false, false, false, false, false, false, false, false, false, false, false, false] rfl rfl (any_of HT_.out (by kernel_rfl)) (fun _ _ _ h => h) (Or.inl ⟨by rfl, ?_⟩) ?_ ?_
                                                  rotate_left
                                                  · intro w'
                                                    go_simp
                                                    with_reducible rfl
                                                  rotate_left
                                                  · simp only [Act.put, List.setIfInBounds_toArray, List.set_cons_zero, List.set_cons_succ, i64_w, i32_w]
                                                    rfl
                                                  refine pure_ (i := 5) (N := some 46) (v := ?_) (a' := ?_) #[true, true, false, false, false, true, false, false, false, false, false, false, false, false, false, false, false, false, false, false, false, false, false, false, false, false, false, false, false, false, false, false, false] rfl rfl (any_of HT_.out (by kernel_rfl)) (fun _ _ _ h => h) (Or.inl ⟨by rfl, ?_⟩) ?_ ?_
                                                  rotate_left
                                                  · intro w'
                                                    go_simp
                                                    with_reducible rfl
                                                  rotate_left
                                                  · simp only [Act.put, List.setIfInBounds_toArray, List.set_cons_zero, List.set_cons_succ, i64_w, i32_w]
                                                    rfl
                                                  refine pure_ (i := 6) (N := some 47) (v := ?_) (a' := ?_) #[true, true, false, false, false, true, true, false, false, false, false, false, false, false, false, false, false, false, false, false, false, false, false, false, false, false, false, false, false, false, false, false, false] rfl rfl (any_of HT_.out (by kernel_rfl)) (fun _ _ _ h => h) (Or.inl ⟨by rfl, ?_⟩) ?_ ?_
                                                  rotate_left
                                                  · intro w'
                                                    go_simp
                                                    with_reducible rfl
                                                  rotate_left
                                                  · simp only [Act.put, List.setIfInBounds_toArray, List.set_cons_zero, List.set_cons_succ, i64_w, i32_w]
                                                    rfl
                                                  refine pure_ (i := 10) (N := some 51) (v := ?_) (a' := ?_) #[true, true, false, false, false, true, true, false, false, false, true, false, false, false, false, false, false, false, false, false, false, false, false, false, false, false, false, false, false, false, false, false, false] rfl rfl (any_of HT_.out (by kernel_rfl)) (fun _ _ _ h => h) (Or.inl ⟨by rfl, ?_⟩) ?_ ?_
                                                  rotate_left
                                                  · intro w'
                                                    go_simp
                                                    with_reducible rfl
                                                  rotate_left
                                                  · simp only [Act.put, List.setIfInBounds_toArray, List.set_cons_zero, List.set_cons_succ, i64_w, i32_w]
                                                    rfl
                                                  refine pure_ (i := 11) (N := some 52) (v := ?_) (a' := ?_) #[true, true, false, false, false, true, true, false, false, false, true, true, false, false, false, false, false, false, false, false, false, false, false, false, false, false, false, false, false, false, false, false, false] rfl rfl (any_of HT_.out (by kernel_rfl)) (fun _ _ _ h => h) (Or.inl ⟨by rfl, ?_⟩) ?_ ?_
                                                  rotate_left
                                                  · intro w'
                                                    go_simp
                                                    with_reducible rfl
                                                  rotate_left
                                                  · simp only [Act.put, List.setIfInBounds_toArray, List.set_cons_zero, List.set_cons_succ, i64_w, i32_w]
                                                    rfl
                                                  refine pure_ (i := 16) (N := some 57) (v := ?_) (a' := ?_) #[true, true, false, false, false, true, true, false, false, false, true, true, false, false, false, false, true, false, false, false, false, false, false, false, false, false, false, false, false, false, false, false, false] rfl rfl (any_of HT_.out (by kernel_rfl)) (fun _ _ _ h => h) (Or.inl ⟨by rfl, ?_⟩) ?_ ?_
                                                  rotate_left
                                                  · intro w'
                                                    go_simp
                                                    with_reducible rfl
                                                  rotate_left
                                                  · simp only [Act.put, List.setIfInBounds_toArray, List.set_cons_zero, List.set_cons_succ, i64_w, i32_w]
                                                    rfl
                                                  refine pure_ (i := 17) (N := some 58) (v := ?_) (a' := ?_) #[true, true, false, false, false, true, true, false, false, false, true, true, false, false, false, false, true, true, false, false, false, false, false, false, false, false, false, false, false, false, false, false, false] rfl rfl (any_of HT_.out (by kernel_rfl)) (fun _ _ _ h => h) (Or.inl ⟨by rfl, ?_⟩) ?_ ?_
                                                  rotate_left
                                                  · intro w'
                                                    go_simp
                                                    with_reducible rfl
                                                  rotate_left
                                                  · simp only [Act.put, List.setIfInBounds_toArray, List.set_cons_zero, List.set_cons_succ, i64_w, i32_w]
                                                    rfl
                                                  refine pure_ (i := 21) (N := some 62) (v := ?_) (a' := ?_) #[true, true, false, false, false, true, true, false, false, false, true, true, false, false, false, false, true, true, false, false, false, true, false, false, false, false, false, false, false, false, false, false, false] rfl rfl (any_of HT_.out (by kernel_rfl)) (fun _ _ _ h => h) (Or.inl ⟨by rfl, ?_⟩) ?_ ?_
                                                  rotate_left
                                                  · intro w'
                                                    go_simp
                                                    with_reducible rfl
                                                  rotate_left
                                                  · simp only [Act.put, List.setIfInBounds_toArray, List.set_cons_zero, List.set_cons_succ, i64_w, i32_w]
                                                    rfl
                                                  refine pure_ (i := 22) (N := some 63) (v := ?_) (a' := ?_) #[true, true, false, false, false, true, true, false, false, false, true, true, false, false, false, false, true, true, false, false, false, true, true, false, false, false, false, false, false, false, false, false, false] rfl rfl (any_of HT_.out (by kernel_rfl)) (fun _ _ _ h => h) (Or.inl ⟨by rfl, ?_⟩) ?_ ?_
                                                  rotate_left
                                                  · intro w'
                                                    go_simp
                                                    with_reducible rfl
                                                  rotate_left
                                                  · simp only [Act.put, List.setIfInBounds_toArray, List.set_cons_zero, List.set_cons_succ, i64_w, i32_w]
                                                    rfl
                                                  refine pure_ (i := 26) (N := some 67) (v := ?_) (a' := ?_) #[true, true, false, false, false, true, true, false, false, false, true, true, false, false, false, false, true, true, false, false, false, true, true, false, false, false, true, false, false, false, false, false, false] rfl rfl (any_of HT_.out (by kernel_rfl)) (fun _ _ _ h => h) (Or.inl ⟨by rfl, ?_⟩) ?_ ?_
                                                  rotate_left
                                                  · intro w'
                                                    go_simp
                                                    with_reducible rfl
                                                  rotate_left
                                                  · simp only [Act.put, List.setIfInBounds_toArray, List.set_cons_zero, List.set_cons_succ, i64_w, i32_w]
                                                    rfl
                                                  refine pure_ (i := 27) (N := some 68) (v := ?_) (a' := ?_) #[true, true, false, false, false, true, true, false, false, false, true, true, false, false, false, false, true, true, false, false, false, true, true, false, false, false, true, true, false, false, false, false, false] rfl rfl (any_of HT_.out (by kernel_rfl)) (fun _ _ _ h => h) (Or.inl ⟨by rfl, ?_⟩) ?_ ?_
                                                  rotate_left
                                                  · intro w'
                                                    go_simp
                                                    with_reducible rfl
                                                  rotate_left
                                                  · simp only [Act.put, List.setIfInBounds_toArray, List.set_cons_zero, List.set_cons_succ, i64_w, i32_w]
                                                    rfl
                                                  refine take_ (i := 2) (N := some 43) (v := ?_) (a' := ?_) #[true, true, true, false, false, true, true, false, false, false, true, true, false, false, false, false, true, true, false, false, false, true, true, false, false, false, true, true, false, false, false, false, false] rfl rfl (take_ofW HT_.out HW_.out (by kernel_rfl)) (fun _ _ _ h => h) (Or.inl ⟨by rfl, ?_⟩) hHeld ?_ ?_
                                                  rotate_left
                                                  · rintro w' ⟨s0, s1, s2, s3, s4, s5, s6, s7, s8, s9⟩
                                                    go_simp
                                                    with_reducible rfl
                                                  rotate_left
                                                  · simp only [Act.put, List.setIfInBounds_toArray, List.set_cons_zero, List.set_cons_succ, i64_w, i32_w]
                                                    rfl
                                                  refine pure_ (i := 3) (N := some 44) (v := ?_) (a' := ?_) #[true, true, true, true, false, true, true, false, false, false, true, true, false, false, false, false, true, true, false, false, false, true, true, false, false, false, true, true, false, false, false, false, false] rfl rfl (any_of HT_.out (by kernel_rfl)) (fun _ _ _ h => h) (Or.inl ⟨by rfl, ?_⟩) ?_ ?_
                                                  rotate_left
                                                  · intro w'
                                                    go_simp
                                                    with_reducible rfl
                                                  rotate_left
                                                  · simp only [Act.put, List.setIfInBounds_toArray, List.set_cons_zero, List.set_cons_succ, i64_w, i32_w]
                                                    rfl
                                                  refine take_ (i := 4) (N := some 45) (v := ?_) (a' := ?_) #[true, true, true, true, true, true, true, false, false, false, true, true, false, false, false, false, true, true, false, false, false, true, true, false, false, false, true, true, false, false, false, false, false] rfl rfl (take_ofW HT_.out HW_.out (by kernel_rfl)) (fun _ _ _ h => h) (Or.inl ⟨by rfl, ?_⟩) hHeld ?_ ?_
                                                  rotate_left
                                                  · rintro w' ⟨s0, s1, s2, s3, s4, s5, s6, s7, s8, s9⟩
                                                    go_simp
                                                    with_reducible rfl
                                                  rotate_left
                                                  · simp only [Act.put, List.setIfInBounds_toArray, List.set_cons_zero, List.set_cons_succ, i64_w, i32_w]
                                                    rfl
                                                  refine take_ (i := 7) (N := some 48) (v := ?_) (a' := ?_) #[true, true, true, true, true, true, true, true, false, false, true, true, false, false, false, false, true, true, false, false, false, true, true, false, false, false, true, true, false, false, false, false, false] rfl rfl (take_ofW HT_.out HW_.out (by kernel_rfl)) (fun _ _ _ h => h) (Or.inl ⟨by rfl, ?_⟩) hHeld ?_ ?_
                                                  rotate_left
                                                  · rintro w' ⟨s0, s1, s2, s3, s4, s5, s6, s7, s8, s9⟩
                                                    go_simp
                                                    with_reducible rfl
                                                  rotate_left
                                                  · simp only [Act.put, List.setIfInBounds_toArray, List.set_cons_zero, List.set_cons_succ, i64_w, i32_w]
                                                    rfl
                                                  refine pure_ (i := 8) (N := some 49) (v := ?_) (a' := ?_) #[true, true, true, true, true, true, true, true, true, false, true, true, false, false, false, false, true, true, false, false, false, true, true, false, false, false, true, true, false, false, false, false, false] rfl rfl (any_of HT_.out (by kernel_rfl)) (fun _ _ _ h => h) (Or.inl ⟨by rfl, ?_⟩) ?_ ?_
                                                  rotate_left
                                                  · intro w'
                                                    go_simp
                                                    with_reducible rfl
                                                  rotate_left
                                                  · simp only [Act.put, List.setIfInBounds_toArray, List.set_cons_zero, List.set_cons_succ, i64_w, i32_w]
                                                    rfl
                                                  refine take_ (i := 9) (N := some 50) (v := ?_) (a' := ?_) #[true, true, true, true, true, true, true, true, true, true, true, true, false, false, false, false, true, true, false, false, false, true, true, false, false, false, true, true, false, false, false, false, false] rfl rfl (take_ofW HT_.out HW_.out (by kernel_rfl)) (fun _ _ _ h => h) (Or.inl ⟨by rfl, ?_⟩) hHeld ?_ ?_
                                                  rotate_left
                                                  · rintro w' ⟨s0, s1, s2, s3, s4, s5, s6, s7, s8, s9⟩
                                                    go_simp
                                                    with_reducible rfl
                                                  rotate_left
                                                  · simp only [Act.put, List.setIfInBounds_toArray, List.set_cons_zero, List.set_cons_succ, i64_w, i32_w]
                                                    rfl
                                                  refine take_ (i := 12) (N := some 53) (v := ?_) (a' := ?_) #[true, true, true, true, true, true, true, true, true, true, true, true, true, false, false, false, true, true, false, false, false, true, true, false, false, false, true, true, false, false, false, false, false] rfl rfl (take_ofW HT_.out HW_.out (by kernel_rfl)) (fun _ _ _ h => h) (Or.inl ⟨by rfl, ?_⟩) hHeld ?_ ?_
                                                  rotate_left
                                                  · rintro w' ⟨s0, s1, s2, s3, s4, s5, s6, s7, s8, s9⟩
                                                    go_simp
                                                    with_reducible rfl
                                                  rotate_left
                                                  · simp only [Act.put, List.setIfInBounds_toArray, List.set_cons_zero, List.set_cons_succ, i64_w, i32_w]
                                                    rfl
                                                  refine pure_ (i := 13) (N := some 54) (v := ?_) (a' := ?_) #[true, true, true, true, true, true, true, true, true, true, true, true, true, true, false, false, true, true, false, false, false, true, true, false, false, false, true, true, false, false, false, false, false] rfl rfl (any_of HT_.out (by kernel_rfl)) (fun _ _ _ h => h) (Or.inl ⟨by rfl, ?_⟩) ?_ ?_
                                                  rotate_left
                                                  · intro w'
                                                    go_simp
                                                    with_reducible rfl
                                                  rotate_left
                                                  · simp only [Act.put, List.setIfInBounds_toArray, List.set_cons_zero, List.set_cons_succ, i64_w, i32_w]
                                                    rfl
                                                  refine take_ (i := 14) (N := some 55) (v := ?_) (a' := ?_) #[true, true, true, true, true, true, true, true, true, true, true, true, true, true, true, false, true, true, false, false, false, true, true, false, false, false, true, true, false, false, false, false, false] rfl rfl (take_ofW HT_.out HW_.out (by kernel_rfl)) (fun _ _ _ h => h) (Or.inl ⟨by rfl, ?_⟩) hHeld ?_ ?_
                                                  rotate_left
                                                  · rintro w' ⟨s0, s1, s2, s3, s4, s5, s6, s7, s8, s9⟩
                                                    go_simp
                                                    with_reducible rfl
                                                  rotate_left
                                                  · simp only [Act.put, List.setIfInBounds_toArray, List.set_cons_zero, List.set_cons_succ, i64_w, i32_w]
                                                    rfl
                                                  refine take_ (i := 18) (N := some 59) (v := ?_) (a' := ?_) #[true, true, true, true, true, true, true, true, true, true, true, true, true, true, true, false, true, true, true, false, false, true, true, false, false, false, true, true, false, false, false, false, false] rfl rfl (take_ofW HT_.out HW_.out (by kernel_rfl)) (fun _ _ _ h => h) (Or.inl ⟨by rfl, ?_⟩) hHeld ?_ ?_
                                                  rotate_left
                                                  · rintro w' ⟨s0, s1, s2, s3, s4, s5, s6, s7, s8, s9⟩
                                                    go_simp
                                                    with_reducible rfl
                                                  rotate_left
                                                  · simp only [Act.put, List.setIfInBounds_toArray, List.set_cons_zero, List.set_cons_succ, i64_w, i32_w]
                                                    rfl
                                                  refine pure_ (i := 19) (N := some 60) (v := ?_) (a' := ?_) #[true, true, true, true, true, true, true, true, true, true, true, true, true, true, true, false, true, true, true, true, false, true, true, false, false, false, true, true, false, false, false, false, false] rfl rfl (any_of HT_.out (by kernel_rfl)) (fun _ _ _ h => h) (Or.inl ⟨by rfl, ?_⟩) ?_ ?_
                                                  rotate_left
                                                  · intro w'
                                                    go_simp
                                                    with_reducible rfl
                                                  rotate_left
                                                  · simp only [Act.put, List.setIfInBounds_toArray, List.set_cons_zero, List.set_cons_succ, i64_w, i32_w]
                                                    rfl
                                                  refine take_ (i := 20) (N := some 61) (v := ?_) (a' := ?_) #[true, true, true, true, true, true, true, true, true, true, true, true, true, true, true, false, true, true, true, true, true, true, true, false, false, false, true, true, false, false, false, false, false] rfl rfl (take_ofW HT_.out HW_.out (by kernel_rfl)) (fun _ _ _ h => h) (Or.inl ⟨by rfl, ?_⟩) hHeld ?_ ?_
                                                  rotate_left
                                                  · rintro w' ⟨s0, s1, s2, s3, s4, s5, s6, s7, s8, s9⟩
                                                    go_simp
                                                    with_reducible rfl
                                                  rotate_left
                                                  · simp only [Act.put, List.setIfInBounds_toArray, List.set_cons_zero, List.set_cons_succ, i64_w, i32_w]
                                                    rfl
                                                  refine take_ (i := 23) (N := some 64) (v := ?_) (a' := ?_) #[true, true, true, true, true, true, true, true, true, true, true, true, true, true, true, false, true, true, true, true, true, true, true, true, false, false, true, true, false, false, false, false, false] rfl rfl (take_ofW HT_.out HW_.out (by kernel_rfl)) (fun _ _ _ h => h) (Or.inl ⟨by rfl, ?_⟩) hHeld ?_ ?_
                                                  rotate_left
                                                  · rintro w' ⟨s0, s1, s2, s3, s4, s5, s6, s7, s8, s9⟩
                                                    go_simp
                                                    with_reducible rfl
                                                  rotate_left
                                                  · simp only [Act.put, List.setIfInBounds_toArray, List.set_cons_zero, List.set_cons_succ, i64_w, i32_w]
                                                    rfl
                                                  refine pure_ (i := 24) (N := some 65) (v := ?_) (a' := ?_) #[true, true, true, true, true, true, true, true, true, true, true, true, true, true, true, false, true, true, true, true, true, true, true, true, true, false, true, true, false, false, false, false, false] rfl rfl (any_of HT_.out (by kernel_rfl)) (fun _ _ _ h => h) (Or.inl ⟨by rfl, ?_⟩) ?_ ?_
                                                  rotate_left
                                                  · intro w'
                                                    go_simp
                                                    with_reducible rfl
                                                  rotate_left
                                                  · simp only [Act.put, List.setIfInBounds_toArray, List.set_cons_zero, List.set_cons_succ, i64_w, i32_w]
                                                    rfl
                                                  refine take_ (i := 25) (N := some 66) (v := ?_) (a' := ?_) #[true, true, true, true, true, true, true, true, true, true, true, true, true, true, true, false, true, true, true, true, true, true, true, true, true, true, true, true, false, false, false, false, false] rfl rfl (take_ofW HT_.out HW_.out (by kernel_rfl)) (fun _ _ _ h => h) (Or.inl ⟨by rfl, ?_⟩) hHeld ?_ ?_
                                                  rotate_left
                                                  · rintro w' ⟨s0, s1, s2, s3, s4, s5, s6, s7, s8, s9⟩
                                                    go_simp
                                                    with_reducible rfl
                                                  rotate_left
                                                  · simp only [Act.put, List.setIfInBounds_toArray, List.set_cons_zero, List.set_cons_succ, i64_w, i32_w]
                                                    rfl
                                                  refine take_ (i := 28) (N := some 69) (v := ?_) (a' := ?_) #[true, true, true, true, true, true, true, true, true, true, true, true, true, true, true, false, true, true, true, true, true, true, true, true, true, true, true, true, true, false, false, false, false] rfl rfl (take_ofW HT_.out HW_.out (by kernel_rfl)) (fun _ _ _ h => h) (Or.inl ⟨by rfl, ?_⟩) hHeld ?_ ?_
                                                  rotate_left
                                                  · rintro w' ⟨s0, s1, s2, s3, s4, s5, s6, s7, s8, s9⟩
                                                    go_simp
                                                    with_reducible rfl
                                                  rotate_left
                                                  · simp only [Act.put, List.setIfInBounds_toArray, List.set_cons_zero, List.set_cons_succ, i64_w, i32_w]
                                                    rfl
                                                  refine pure_ (i := 29) (N := some 70) (v := ?_) (a' := ?_) #[true, true, true, true, true, true, true, true, true, true, true, true, true, true, true, false, true, true, true, true, true, true, true, true, true, true, true, true, true, true, false, false, false] rfl rfl (any_of HT_.out (by kernel_rfl)) (fun _ _ _ h => h) (Or.inl ⟨by rfl, ?_⟩) ?_ ?_
                                                  rotate_left
                                                  · intro w'
                                                    go_simp
                                                    with_reducible rfl
                                                  rotate_left
                                                  · simp only [Act.put, List.setIfInBounds_toArray, List.set_cons_zero, List.set_cons_succ, i64_w, i32_w]
                                                    rfl
                                                  refine take_ (i := 30) (N := some 71) (v := ?_) (a' := ?_) #[true, true, true, true, true, true, true, true, true, true, true, true, true, true, true, false, true, true, true, true, true, true, true, true, true, true, true, true, true, true, true, false, false] rfl rfl (take_ofW HT_.out HW_.out (by kernel_rfl)) (fun _ _ _ h => h) (Or.inl ⟨by rfl, ?_⟩) hHeld ?_ ?_
                                                  rotate_left
                                                  · rintro w' ⟨s0, s1, s2, s3, s4, s5, s6, s7, s8, s9⟩
                                                    go_simp
                                                    with_reducible rfl
                                                  rotate_left
                                                  · simp only [Act.put, List.setIfInBounds_toArray, List.set_cons_zero, List.set_cons_succ, i64_w, i32_w]
                                                    rfl
                                                  refine one_ (i := 15) (N := some 56) #[true, true, true, true, true, true, true, true, true, true, true, true, true, true, true, true, true, true, true, true, true, true, true, true, true, true, true, true, true, true, true, false, false] rfl rfl (one_of HT_.out (by kernel_rfl)) (by decide) (fun K hK => ?_)
                                                  refine goes_ Try.func142 (by kernel_rfl) rfl #[.int .i64 (rd t205 ((rd_T112 y213 x37_3).f0)), .int .i64 (rd t205 ((rd_T112 t208 x27_2).f0)), .int .i64 (rd t205 ((rd_T112 t208 x27_2).f1))] (by rfl) rfl rfl (by (try simp only [List.map_toArray, List.map_cons, List.map_nil]); first | done | rfl | (simp only [List.length_drop, List.length_take]; rfl)) ?_
                                                  with_reducible refine (impl_isAmong.calls (rd t205 ((rd_T112 y213 x37_3).f0)) (rd t205 ((rd_T112 t208 x27_2).f0)) (rd t205 ((rd_T112 t208 x27_2).f1)) t222 _ A29.out).mono ?_
                                                  rintro e w52 ⟨rfl, hb⟩
                                                  have HS4_ := (hb.cell (World.block_lt_of_cell? _ _ (hHeld.2.2.2.2.1))).trans (hHeld.2.2.2.2.1)
                                                  have HS5_ := (hb.cell (World.block_lt_of_cell? _ _ (hHeld.2.2.2.2.2.1))).trans (hHeld.2.2.2.2.2.1)
                                                  have HS6_ := (hb.cell (World.block_lt_of_cell? _ _ (hHeld.2.2.2.2.2.2.1))).trans (hHeld.2.2.2.2.2.2.1)
                                                  have HS7_ := (hb.cell (World.block_lt_of_cell? _ _ (hHeld.2.2.2.2.2.2.2.1))).trans (hHeld.2.2.2.2.2.2.2.1)
                                                  have HS8_ := (hb.cell (World.block_lt_of_cell? _ _ (hHeld.2.2.2.2.2.2.2.2.1))).trans (hHeld.2.2.2.2.2.2.2.2.1)
                                                  have HS9_ := (hb.cell (World.block_lt_of_cell? _ _ (hHeld.2.2.2.2.2.2.2.2.2))).trans (hHeld.2.2.2.2.2.2.2.2.2)
                                                  refine ⟨_, rfl, ?_⟩
                                                  replace HO_8 := Aside0.mk (Kd.R_below (ra (h := HO_8.out)) hb)
                                                  replace HO_10 := Aside0.mk (Kd.R_below (ra (h := HO_10.out)) hb)
                                                  replace HO_25 := Aside0.mk (Kd.R_below (ra (h := HO_25.out)) hb)
                                                  replace BK212 := bb BK212 hb
                                                  replace BK218 := bb BK218 hb
                                                  replace HB := bs hb
                                                  (try clear hb)
                                                  (try clear hb2)
                                                  (try clear hk)
                                                  (try clear hi)
                                                  refine hK.out _ _ ⟨(blk_cell BK218.out 0).trans rfl, (blk_cell BK218.out 1).trans rfl, (blk_cell BK212.out 0).trans rfl, (blk_cell BK212.out 1).trans rfl, HS4_, HS5_, HS6_, HS7_, HS8_, HS9_⟩ (fun hHeld => ?_)
                                                  clear hK K
                                                  refine norm_ (a' := ?_) ?_ ?_
                                                  rotate_left
                                                  · show Act.put _ (some 56) _ = _
                                                    simp only [Act.put, List.setIfInBounds_toArray, List.set_cons_zero, List.set_cons_succ, i64_w, i32_w]
                                                    rfl
                                                  refine one_ (i := 31) (N := some 72) #[true, true, true, true, true, true, true, true, true, true, true, true, true, true, true, true, true, true, true, true, true, true, true, true, true, true, true, true, true, true, true, true, false] rfl rfl (one_of HT_.out (by kernel_rfl)) (by decide) (fun K hK => ?_)
                                                  refine goes_ Try.func142 (by kernel_rfl) rfl #[.int .i64 (rd t205 ((rd_T112 y213 x37_3).f1)), .int .i64 (rd t205 ((rd_T112 t208 x27_2).f0)), .int .i64 (rd t205 ((rd_T112 t208 x27_2).f1))] (by rfl) rfl rfl (by (try simp only [List.map_toArray, List.map_cons, List.map_nil]); first | done | rfl | (simp only [List.length_drop, List.length_take]; rfl)) ?_
                                                  with_reducible refine (impl_isAmong.calls (rd t205 ((rd_T112 y213 x37_3).f1)) (rd t205 ((rd_T112 t208 x27_2).f0)) (rd t205 ((rd_T112 t208 x27_2).f1)) t226 _ A32.out).mono ?_
                                                  rintro e w53 ⟨rfl, hb⟩
                                                  have HS4_ := (hb.cell (World.block_lt_of_cell? _ _ (hHeld.2.2.2.2.1))).trans (hHeld.2.2.2.2.1)
                                                  have HS5_ := (hb.cell (World.block_lt_of_cell? _ _ (hHeld.2.2.2.2.2.1))).trans (hHeld.2.2.2.2.2.1)
                                                  have HS6_ := (hb.cell (World.block_lt_of_cell? _ _ (hHeld.2.2.2.2.2.2.1))).trans (hHeld.2.2.2.2.2.2.1)
                                                  have HS7_ := (hb.cell (World.block_lt_of_cell? _ _ (hHeld.2.2.2.2.2.2.2.1))).trans (hHeld.2.2.2.2.2.2.2.1)
                                                  have HS8_ := (hb.cell (World.block_lt_of_cell? _ _ (hHeld.2.2.2.2.2.2.2.2.1))).trans (hHeld.2.2.2.2.2.2.2.2.1)
                                                  have HS9_ := (hb.cell (World.block_lt_of_cell? _ _ (hHeld.2.2.2.2.2.2.2.2.2))).trans (hHeld.2.2.2.2.2.2.2.2.2)
                                                  refine ⟨_, rfl, ?_⟩
                                                  replace HO_8 := Aside0.mk (Kd.R_below (ra (h := HO_8.out)) hb)
                                                  replace HO_10 := Aside0.mk (Kd.R_below (ra (h := HO_10.out)) hb)
                                                  replace HO_25 := Aside0.mk (Kd.R_below (ra (h := HO_25.out)) hb)
                                                  replace BK212 := bb BK212 hb
                                                  replace BK218 := bb BK218 hb
                                                  replace HB := bs hb
                                                  (try clear hb)
                                                  (try clear hb2)
                                                  (try clear hk)
                                                  (try clear hi)
                                                  refine hK.out _ _ ⟨(blk_cell BK218.out 0).trans rfl, (blk_cell BK218.out 1).trans rfl, (blk_cell BK212.out 0).trans rfl, (blk_cell BK212.out 1).trans rfl, HS4_, HS5_, HS6_, HS7_, HS8_, HS9_⟩ (fun hHeld => ?_)
                                                  clear hK K
                                                  refine norm_ (a' := ?_) ?_ ?_
                                                  rotate_left
                                                  · show Act.put _ (some 72) _ = _
                                                    simp only [Act.put, List.setIfInBounds_toArray, List.set_cons_zero, List.set_cons_succ, i64_w, i32_w]
                                                    rfl
                                                  refine pure_ (i := 32) (N := some 73) (v := ?_) (a' := ?_) #[true, true, true, true, true, true, true, true, true, true, true, true, true, true, true, true, true, true, true, true, true, true, true, true, true, true, true, true, true, true, true, true, true] rfl rfl (any_of HT_.out (by kernel_rfl)) (fun _ _ _ h => h) (Or.inl ⟨by rfl, ?_⟩) ?_ ?_
                                                  rotate_left
                                                  · intro w'
                                                    go_simp
                                                    with_reducible rfl
                                                  rotate_left
                                                  · simp only [Act.put, List.setIfInBounds_toArray, List.set_cons_zero, List.set_cons_succ, i64_w, i32_w]
                                                    rfl
                                                  refine done_ (done_of HT_.out (by kernel_rfl)) ?_
                                                  try go_wp2
                                                  go_roundg k3
                                                  case measure => have := HK1.out; have := HK2.out; have := HK3.out; omega
                                                  case rel => exact ⟨(wrap64 (x37_3 + 1)), (by first | rfl | (simp; done) | (simp [*]; done)), H', ⟨by have := HK1.out; have := HK2.out; have := HK3.out; omega⟩, ⟨by refine ra (h := ?_); exact HO_8.out⟩, ⟨by refine ra (h := ?_); exact Kd.R_mono HO_10.out (fun _ hk => hk.1)⟩, ⟨by refine ra (h := ?_); exact Kd.R_mono HO_25.out (fun _ hk => hk.1)⟩, ⟨by refine bk (h := ?_); exact BK212.out⟩, ⟨bw⟩⟩
                                              · rw [if_neg c31] at H
                                                exact absurd H (by simp)
                                            · rw [if_neg c30] at H
                                              exact absurd H (by simp)
                                          · rw [if_neg c28] at H
                                            exact absurd H (by simp)
                                        · rw [if_neg c27] at H
                                          exact absurd H (by simp)
                                      · rw [if_neg c26] at H
                                        exact absurd H (by simp)
                                    · rw [if_neg c25] at H
                                      exact absurd H (by simp)
                                  · rw [if_neg c24] at H
                                    exact absurd H (by simp)
                                · rw [if_neg c23] at H
                                  exact absurd H (by simp)
                              · rw [if_neg c22] at H
                                exact absurd H (by simp)
                            · rw [if_neg c21] at H
                              exact absurd H (by simp)
                          · rw [if_neg c20] at H
                            have c20b0 : decide (x37_3 < (y213.length : Int)) = false := decide_eq_false c20
                            clear c20
                            have H' := Aside0.mk H
                            clear H
                            go_wp2
                            go_roundg k3
                            case measure => have := HK1.out; have := HK2.out; have := HK3.out; omega
                            case rel => exact ⟨(wrap64 (x27_2 + 1)), (by first | rfl | (simp; done) | (simp [*]; done)), H', ⟨by have := HK1.out; have := HK2.out; have := HK3.out; omega⟩, ⟨by refine ra (h := ?_); exact HO_8.out⟩, ⟨by refine ra (h := ?_); exact Kd.R_mono HO_10.out (fun _ hk => trivial)⟩, ⟨by refine ra (h := ?_); exact Kd.R_mono HO_25.out (fun _ hk => trivial)⟩, ⟨bw⟩⟩
                    · rw [if_neg c15] at H
                      exact absurd H (by simp)
                  · rw [if_neg c14] at H
                    exact absurd H (by simp)
                · rw [if_neg c12] at H
                  exact absurd H (by simp)
              · rw [if_neg c11] at H
                exact absurd H (by simp)
            · rw [if_neg c10] at H
              have c10b0 : decide (x27_2 < (t208.length : Int)) = false := decide_eq_false c10
              clear c10
              have H' := Aside0.mk H
              clear H
              go_wp2
              go_roundg k2
              case measure => have := HK1.out; have := HK2.out; omega
              case rel => exact ⟨(wrap64 (x9_1 + 1)), (by first | rfl | (simp; done) | (simp [*]; done)), H', ⟨by have := HK1.out; have := HK2.out; omega⟩, ⟨by refine ra (h := ?_); exact HO_8.out⟩, ⟨bw⟩⟩
      · rw [if_neg c6] at H
        have c6b0 : decide (x9_1 ≤ 4) = false := decide_eq_false c6
        clear c6
        simp only [Option.some.injEq, Prod.mk.injEq] at H
        obtain ⟨rfl, rfl⟩ := H
        go_wp2
        go_ret2
        exact ⟨_, er, by first | exact Kd.R_nil _ _ _ _ _ | exact Kd.N_nil _ _ _ _ _ | exact Kd.V_nil _ _ _ _ _ | exact Kd.Q_nil _ _ _ _ _ | exact Kd.S_nil _ _ _ _ _, bw⟩

end Go.Proofs.Yteadienaeapaeaa.PK
