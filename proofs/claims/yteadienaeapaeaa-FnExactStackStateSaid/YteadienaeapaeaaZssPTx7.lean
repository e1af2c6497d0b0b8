-- Made by a program of this session (myprint.py) out of the translation.
import Derived.Test.YteadienaeapaeaaZssPTx0
import Derived.Test.YteadienaeapaeaaZssPTx6
import Derived.Test.YteadienaeapaeaaZssShort
namespace Go.Proofs.Yteadienaeapaeaa.PT
open Go.Proofs.Yteadienaeapaeaa.Short
open Go.Proofs.Yteadienaeapaeaa.Dyn
open Go.RowKit Go.Proofs.YteadienaeapaeaaW.PrintWords Go.Proofs.YteadienaeapaeaaW.PrintLast Go.Proofs.YteadienaeapaeaaW.PrintMore
attribute [local go_sem] max2_int min2_int max_two min_two max_three min_three max_four min_four   -- for this text's walks alone
set_option linter.unusedVariables false
set_option linter.unusedSimpArgs false

/-! ### impl_isStack: function 76 -/
def impl_isStack.f (a0 : Int) (a1 : Int) (l2 : List Int) : Option (Bool) := (impl_isPermutation.f l2 (wrap64 (a0 * a1))).bind fun t217 => (some t217)
set_option maxHeartbeats 8000000 in
set_option maxRecDepth 100000 in
theorem impl_isStack.calls (a0 : Int) (a1 : Int) (A2 : Option Addr) (c2 : Nat) (l2 : List Int) (r : Bool) (w : World) (hr2 : Kd.C (Kd.int .i64) w A2 l2.length l2) (hc2 : l2.length ≤ c2) (h : impl_isStack.f a0 a1 l2 = some r) :
    Calls Try.prog 76 #[.int .i64 a0, .int .i64 a1, .slice A2 l2.length c2] w fun e w' => e = .returned (.bool r) ∧ Below w.heap.size w w' := by
  have HR2 := Aside0.mk hr2
  have HC2 := Aside0.mk hc2
  clear hr2 hc2
  have HB := Aside0.mk (Below.refl w.heap.size w)
  have H : ((impl_isPermutation.f l2 (wrap64 (a0 * a1))).bind fun t217 => (some t217)) = some r := h
  clear h
  replace H := Option.bind_eq_some_iff.mp H
  obtain ⟨t217, A40, H⟩ := H
  replace H : (some t217) = some r := H
  have A4 := Aside0.mk A40
  clear A40
  obtain rfl := Option.some.inj H
  go_enter Try.func76, Try.ntmps76
  go_wp2_with (first | ((with_reducible refine gate_callee (f := 62) rfl ?_); refine gl (some 11) Try.func62 #[.slice A2 l2.length c2, .int .i64 (wrap64 (a0 * a1))] ?_; (with_reducible refine (impl_isPermutation.calls _ _ l2 (wrap64 (a0 * a1)) t217 _ ?side1 ?side2 A4.out).mono ?_); (case side1 => repeat (first | exact HR2.out | (with_reducible refine Kd.C_alloc ?_ _) | (with_reducible refine Kd.C_drewN ?_ _) | (with_reducible refine Kd.C_drew ?_))); (case side2 => exact HC2.out); rintro e w5 ⟨rfl, hb⟩; refine ⟨_, rfl, ?_⟩; replace HB := bs hb; (try clear hb); (try clear hb2); (try clear hk); (try clear hi)))
  go_ret
  exact ⟨er, bw⟩

/-! ### impl_heights: function 88 -/
def impl_heights.l0 : Nat → List Int → List Int → Int → Int → Option (List Int)
  | 0, _, _, _, _ => none
  | k + 1, x3, x9, x10, x11 => if x11 < x10 then (if 0 ≤ x11 then (if x11 < (x9.length : Int) then (if 0 ≤ (rd x9 x11) then (if (rd x9 x11) < (x3.length : Int) then (impl_heights.l0 k (x3.set ((rd x9 x11) : Int).toNat x11) x9 x10 (wrap64 (x11 + 1))) else (none)) else (none)) else (none)) else (none)) else (some x3)
def impl_heights.f (k : Nat) (l0 : List Int) : Option (List Int) := if 0 ≤ (l0.length : Int) then (if ((l0.length : Int) : Int).toNat ≤ 35184372088832 then (impl_heights.l0 k (List.replicate ((l0.length : Int) : Int).toNat 0) l0 (l0.length : Int) 0) else (none)) else (none)
theorem impl_heights.mono_l : ∀ k, (∀ y0 y1 y2 y3, LeO (impl_heights.l0 k y0 y1 y2 y3) (impl_heights.l0 (k + 1) y0 y1 y2 y3))
  | 0 => fun _ _ _ _ r h => by simp [impl_heights.l0] at h
  | k + 1 => by
    have ih0 := impl_heights.mono_l k
    · intro y0 y1 y2 y3
      unfold impl_heights.l0
      repeat' first
      | (with_reducible exact ih0 _ _ _ _)
      | (with_reducible exact LeO.refl _)
      | (with_reducible exact LeO.none _)
      | (with_reducible refine LeO.ite ?_ ?_)
      | (with_reducible refine LeO.bind ?_ (fun _ => ?_))
      | exact ih0 _ _ _ _
      | exact LeO.none _
      | refine LeO.ite ?_ ?_
      | refine LeO.bind ?_ (fun _ => ?_)
theorem impl_heights.mono : ∀ a0 k, LeO (impl_heights.f k a0) (impl_heights.f (k + 1) a0) := by
  intro a0 k
  have ih0 := impl_heights.mono_l k
  unfold impl_heights.f
  repeat' first
      | (with_reducible exact ih0 _ _ _ _)
      | (with_reducible exact LeO.refl _)
      | (with_reducible exact LeO.none _)
      | (with_reducible refine LeO.ite ?_ ?_)
      | (with_reducible refine LeO.bind ?_ (fun _ => ?_))
      | exact ih0 _ _ _ _
      | exact LeO.none _
      | refine LeO.ite ?_ ?_
      | refine LeO.bind ?_ (fun _ => ?_)
set_option maxHeartbeats 8000000 in
set_option maxRecDepth 100000 in
theorem impl_heights.calls (k : Nat) (A0 : Option Addr) (c0 : Nat) (l0 : List Int) (r : List Int) (w : World) (hr0 : Kd.C (Kd.int .i64) w A0 l0.length l0) (hc0 : l0.length ≤ c0) (h : impl_heights.f k l0 = some r) :
    Calls Try.prog 88 #[.slice A0 l0.length c0] w fun e w' => ∃ v0_ : Value, e = .returned (v0_) ∧ Kd.R (Kd.int .i64) 2 w' w.heap.size (fun _ => True) v0_ r ∧ Below w.heap.size w w' := by
  have HR0 := Aside0.mk hr0
  have HC0 := Aside0.mk hc0
  clear hr0 hc0
  have HB := Aside0.mk (Below.refl w.heap.size w)
  have H : (if 0 ≤ (l0.length : Int) then (if ((l0.length : Int) : Int).toNat ≤ 35184372088832 then (impl_heights.l0 k (List.replicate ((l0.length : Int) : Int).toNat 0) l0 (l0.length : Int) 0) else (none)) else (none)) = some r := h
  clear h
  by_cases c2 : 0 ≤ (l0.length : Int)
  · rw [if_pos c2] at H
    have c2b0 := eq_true c2
    have c2b1 : decide (0 ≤ (l0.length : Int)) = true := decide_eq_true c2
    clear c2
    by_cases c3 : ((l0.length : Int) : Int).toNat ≤ 35184372088832
    · rw [if_pos c3] at H
      have c3b0 := eq_true c3
      have c3b1 : decide (((l0.length : Int) : Int).toNat ≤ 35184372088832) = true := decide_eq_true c3
      clear c3
      obtain ⟨y218, hy218⟩ : ∃ y_ : List Int, y_ = (List.replicate ((l0.length : Int) : Int).toNat 0) := ⟨_, rfl⟩
      replace H : (impl_heights.l0 k y218 l0 (l0.length : Int) 0) = some r := by first | (rw [hy218]; with_reducible exact H) | (have H2_ := (Option.bind_some _ _).symm.trans H; rw [hy218]; with_reducible exact H2_) | (have H2_ := (Option.bind_some _ _).symm.trans H; with_reducible exact H2_) | with_reducible exact H | (rw [hy218]; exact H) | exact H
      have Ny218 := Aside0.mk hy218
      clear hy218
      have H' := Aside0.mk H
      clear H
      go_enter Try.func88, Try.ntmps88
      go_wp2_with (first | ((with_reducible refine gate_dst (N := 8) rfl ?_); refine Kd.R_make (Kd.int .i64) _ 2 rfl (N := 8) rfl 24 _ _ rfl (l0.length : Int) rfl rfl Try.underlying24 (.int .i64 0) 8 info2 rfl (by decide) (by omega) 0 (ok := fun _ => True) (okp := fun _ => True) rfl (fun _ hk => hk) trivial (od) (Nat.le_trans (Nat.mul_le_mul_right _ (od : (l0.length : Int).toNat ≤ 35184372088832)) (by omega)) (Below.refl _ _) (Nat.le_refl _) ?_; intro v219 w4 ho5 hb hg_ hnew_; clear hg_ hnew_; (first | rw [← Ny218.out] at ho5 | (simp only [Int.reduceToNat] at ho5; rw [← Ny218.out] at ho5)); have HO220 := Aside0.mk (Kd.R_lower ho5 (below_size bw)); replace HB := bs hb; clear hb ho5))
      go_loopg [11] k (fun kq v11 w' => ∃ (x3_1 : List Int) (x11_1 : Int), v11 = .int .i64 x11_1 ∧ Aside0 (impl_heights.l0 kq x3_1 l0 (l0.length : Int) x11_1 = some r) ∧ Aside0 (kq ≤ k) ∧ Aside0 (Kd.R (Kd.int .i64) 2 w' w.heap.size (fun _ => True) v219 x3_1) ∧ Aside0 (Below w.heap.size w w'))
      case atStart => exact ⟨(y218), (0), (by first | rfl | (simp; done) | (simp [*]; done)), H', ⟨Nat.le_refl _⟩, ⟨by refine ra (h := ?_); exact HO220.out⟩, ⟨bw⟩⟩
      case round =>
        clear H'
        try clear c2
        try clear c2b0
        try clear c2b1
        try clear p2
        try clear c3
        try clear c3b0
        try clear c3b1
        obtain ⟨x3_1, x11_1, rfl, HA, HK1, HO_3, HB⟩ := hrel
        cases gk with
        | zero => exact absurd HA.out (by simp [impl_heights.l0])
        | succ k1 =>
          have H := HA.out
          clear HA
          simp only [impl_heights.l0] at H
          by_cases c6 : x11_1 < (l0.length : Int)
          · rw [if_pos c6] at H
            have c6b0 : decide (x11_1 < (l0.length : Int)) = true := decide_eq_true c6
            clear c6
            by_cases c7 : 0 ≤ x11_1
            · rw [if_pos c7] at H
              have c7b0 : decide (0 ≤ x11_1) = true := decide_eq_true c7
              clear c7
              by_cases c8 : x11_1 < (l0.length : Int)
              · rw [if_pos c8] at H
                have c8b0 : decide (x11_1 < (l0.length : Int)) = true := decide_eq_true c8
                clear c8
                by_cases c9 : 0 ≤ (rd l0 x11_1)
                · rw [if_pos c9] at H
                  have c9b0 : decide (0 ≤ (rd l0 x11_1)) = true := decide_eq_true c9
                  clear c9
                  by_cases c10 : (rd l0 x11_1) < (x3_1.length : Int)
                  · rw [if_pos c10] at H
                    have c10b0 : decide ((rd l0 x11_1) < (x3_1.length : Int)) = true := decide_eq_true c10
                    clear c10
                    obtain ⟨y222, hy222⟩ : ∃ y_ : List Int, y_ = (x3_1.set ((rd l0 x11_1) : Int).toNat x11_1) := ⟨_, rfl⟩
                    replace H : (impl_heights.l0 k1 y222 l0 (l0.length : Int) (wrap64 (x11_1 + 1))) = some r := by first | (rw [hy222]; with_reducible exact H) | (have H2_ := (Option.bind_some _ _).symm.trans H; rw [hy222]; with_reducible exact H2_) | (have H2_ := (Option.bind_some _ _).symm.trans H; with_reducible exact H2_) | with_reducible exact H | (rw [hy222]; exact H) | exact H
                    have Ny222 := Aside0.mk hy222
                    clear hy222
                    have H' := Aside0.mk H
                    clear H
                    have p221 : 0 ≤ (x11_1 : Int) := od
                    have q221 : x11_1 < (l0.length : Int) := od
                    obtain ⟨ad221, e221, hx221_0⟩ := Kd.at_int HR0.out x11_1 p221 q221
                    cases e221
                    replace hx221_0 := bc hx221_0
                    replace p221 := eq_true p221
                    replace q221 := eq_true q221
                    have p11 : 0 ≤ ((rd l0 x11_1) : Int) := od
                    have q11 : ((rd l0 x11_1) : Int) < ((x3_1.length : Int) : Int) := od
                    obtain ⟨go11, co11, eo11, gb11, gl11, cl11, HG11⟩ := Kd.R_form HO_3.out (by omega)
                    (first | cases eo11 | (injection eo11 with ea_ en_ ec_; (first | subst ea_ | (injection ea_ with ea_; subst ea_)); subst ec_; clear en_))
                    have GB11 := Aside0.mk gb11
                    have GG11 := Aside0.mk HG11
                    clear gb11 gl11 HG11
                    obtain ⟨hx11_0, hf11_0⟩ := Kd.R_celln 0 HO_3.out ((rd l0 x11_1) : Int) p11 q11
                    replace p11 := eq_true p11
                    replace q11 := eq_true q11
                    have HP12 := Kd.R_putg HO_3.out ((rd l0 x11_1) : Int) x11_1
                    go_wp2_with (first | ((with_reducible refine gate_store (t := 2) (p := 19) rfl ?_); refine store_event (t := 2) (p := 19) (v := ?vo_w13) (w1 := (wr.setCell ⟨go11, ((rd l0 x11_1) : Int).toNat, none⟩ (.int .i64 x11_1))) ?hg ?ho ?hn ?hr ?_; (case ho => rfl); (case hg => rfl); (case hn => rfl); (case hr => first | (go_simp; done) | (go_simp; rfl)); intro w13 hw; have hg : wr.grownBy w13 (some go11) := (by rw [hw]; exact HP12.2); have hp_ : Kd.R (Kd.int .i64) 2 w13 w.heap.size (fun _ => True) (.slice (some ⟨go11, 0, none⟩) x3_1.length co11) y222 := (by rw [hw, Ny222.out]; exact HP12.1); clear HP12; replace HO_3 := Aside0.mk (hp_); replace HB := Aside0.mk ((by rw [hw]; exact below_set (HB.out) GB11.out : Below w.heap.size w w13)); clear hg hw hp_))
                    go_roundg k1
                    case measure => have := HK1.out; omega
                    case rel => exact ⟨(y222), (wrap64 (x11_1 + 1)), (by first | rfl | (simp; done) | (simp [*]; done)), H', ⟨by have := HK1.out; omega⟩, ⟨by refine ra (h := ?_); exact HO_3.out⟩, ⟨bw⟩⟩
                  · rw [if_neg c10] at H
                    exact absurd H (by simp)
                · rw [if_neg c9] at H
                  exact absurd H (by simp)
              · rw [if_neg c8] at H
                exact absurd H (by simp)
            · rw [if_neg c7] at H
              exact absurd H (by simp)
          · rw [if_neg c6] at H
            have c6b0 : decide (x11_1 < (l0.length : Int)) = false := decide_eq_false c6
            clear c6
            obtain rfl := Option.some.inj H
            go_wp2
            go_ret
            exact ⟨_, er, by refine ra (h := ?_); exact HO_3.out, bw⟩
    · rw [if_neg c3] at H
      exact absurd H (by simp)
  · rw [if_neg c2] at H
    exact absurd H (by simp)

/-! ### impl_whole: function 148 -/
def impl_whole.f (a0 : Int) : Option (Int × Int × Int) := some (a0, 0, 0)
set_option maxHeartbeats 8000000 in
set_option maxRecDepth 100000 in
theorem impl_whole.calls (a0 : Int) (r1 : Int) (r2 : Int) (r3 : Int) (w : World) (h : impl_whole.f a0 = some (r1, r2, r3)) :
    Calls Try.prog 148 #[.int .i64 a0] w fun e w' => e = .returned (.agg #[.int .i64 r1, .int .i64 r2, .int .i64 r3]) ∧ Below w.heap.size w w' := by
  have hu94 := Try.underlying94
  have HB := Aside0.mk (Below.refl w.heap.size w)
  have H : (some (a0, 0, 0)) = some (r1, r2, r3) := h
  clear h
  simp only [Option.some.injEq, Prod.mk.injEq] at H
  obtain ⟨rfl, rfl, rfl⟩ := H
  go_enter Try.func148, Try.ntmps148
  go_wp2_with (first | ((with_reducible refine gate_dst (N := 2) rfl ?_); refine bx #[.int .i64 0, .int .i64 0, .int .i64 0] 94 ?_; intro gb223 hg w2 hbox hb; have BK223 := Aside0.mk hbox; have GW223 := bg hg; have GE223 := bg hg; replace HB := bs hb; clear hb hbox hg; obtain ⟨z3_0, z3_1, z3_2, y3_0, y3_1, y3_2⟩ := bq3 BK223))
  refine bodyPost_ret (results_cell_row rfl _ _ gb223 94 #[.int .i64 a0, .int .i64 0, .int .i64 0] (0, 0) _ rfl (by refine bk (h := ?_); refine blk_put (cs := #[.int .i64 a0, .int .i64 0, .int .i64 0]) ?_ 2 _ rfl; refine bk (h := ?_); refine blk_put (cs := #[.int .i64 a0, .int .i64 0, .int .i64 0]) ?_ 1 _ rfl; refine bk (h := ?_); refine blk_put (cs := #[.int .i64 0, .int .i64 0, .int .i64 0]) ?_ 0 _ rfl; refine bk (h := ?_); exact BK223.out) Try.underlying94 rfl (by kernel_rfl)) rfl ?_
  exact ⟨er, bw⟩

/-! ### impl_corner: function 107 -/
def impl_corner.f (a0 : Int) (a1 : Int) : Option (Int × Int × Int × Int × Int × Int) := (impl_whole.f a0).bind fun bt225 => ((impl_whole.f a1).bind fun bt228 => (some (bt225.1, bt225.2.1, bt225.2.2, bt228.1, bt228.2.1, bt228.2.2)))
set_option maxHeartbeats 8000000 in
set_option maxRecDepth 100000 in
theorem impl_corner.calls (a0 : Int) (a1 : Int) (r1 : Int) (r2 : Int) (r3 : Int) (r4 : Int) (r5 : Int) (r6 : Int) (w : World) (h : impl_corner.f a0 a1 = some (r1, r2, r3, r4, r5, r6)) :
    Calls Try.prog 107 #[.int .i64 a0, .int .i64 a1] w fun e w' => e = .returned (.agg #[.int .i64 r1, .int .i64 r2, .int .i64 r3, .int .i64 r4, .int .i64 r5, .int .i64 r6]) ∧ Below w.heap.size w w' := by
  have hu130 := Try.underlying130
  have HB := Aside0.mk (Below.refl w.heap.size w)
  have H : ((impl_whole.f a0).bind fun bt225 => ((impl_whole.f a1).bind fun bt228 => (some (bt225.1, bt225.2.1, bt225.2.2, bt228.1, bt228.2.1, bt228.2.2)))) = some (r1, r2, r3, r4, r5, r6) := h
  clear h
  replace H := Option.bind_eq_some_iff.mp H
  obtain ⟨⟨t225, t226, t227⟩, A30, H⟩ := H
  replace H : ((impl_whole.f a1).bind fun bt228 => (some (t225, t226, t227, bt228.1, bt228.2.1, bt228.2.2))) = some (r1, r2, r3, r4, r5, r6) := H
  have A3 := Aside0.mk A30
  clear A30
  replace H := Option.bind_eq_some_iff.mp H
  obtain ⟨⟨t228, t229, t230⟩, A40, H⟩ := H
  replace H : (some (t225, t226, t227, t228, t229, t230)) = some (r1, r2, r3, r4, r5, r6) := H
  have A4 := Aside0.mk A40
  clear A40
  simp only [Option.some.injEq, Prod.mk.injEq] at H
  obtain ⟨rfl, rfl, rfl, rfl, rfl, rfl⟩ := H
  go_enter Try.func107, Try.ntmps107
  go_wp2_with (first | ((with_reducible refine gate_dst (N := 4) rfl ?_); refine bx #[.int .i64 0, .int .i64 0, .int .i64 0, .int .i64 0, .int .i64 0, .int .i64 0] 130 ?_; intro gb224 hg w5 hbox hb; have BK224 := Aside0.mk hbox; have GW224 := bg hg; have GE224 := bg hg; replace HB := bs hb; clear hb hbox hg) | ((with_reducible refine gate_callee (f := 148) rfl ?_); refine gl (some 6) Try.func148 #[.int .i64 a0] ?_; (with_reducible refine (impl_whole.calls a0 t225 t226 t227 _ A3.out).mono ?_); rintro e w6 ⟨rfl, hb⟩; refine ⟨_, rfl, ?_⟩; replace BK224 := bb BK224 hb; replace HB := bs hb; (try clear hb); (try clear hb2); (try clear hk); (try clear hi)) | ((with_reducible refine gate_callee (f := 148) rfl ?_); refine gl (some 8) Try.func148 #[.int .i64 a1] ?_; (with_reducible refine (impl_whole.calls a1 t228 t229 t230 _ A4.out).mono ?_); rintro e w7 ⟨rfl, hb⟩; refine ⟨_, rfl, ?_⟩; replace BK224 := bb BK224 hb; replace HB := bs hb; (try clear hb); (try clear hb2); (try clear hk); (try clear hi); obtain ⟨z8_0, z8_1, z8_2, z8_3, z8_4, z8_5, y8_0, y8_1, y8_2, y8_3, y8_4, y8_5⟩ := bq6 BK224))
  refine bodyPost_ret (results_cell_row rfl _ _ gb224 130 #[.int .i64 t225, .int .i64 t226, .int .i64 t227, .int .i64 t228, .int .i64 t229, .int .i64 t230] (0, 0) _ rfl (by refine bk (h := ?_); refine blk_put (cs := #[.int .i64 t225, .int .i64 t226, .int .i64 t227, .int .i64 t228, .int .i64 t229, .int .i64 0]) ?_ 5 _ rfl; refine bk (h := ?_); refine blk_put (cs := #[.int .i64 t225, .int .i64 t226, .int .i64 t227, .int .i64 t228, .int .i64 0, .int .i64 0]) ?_ 4 _ rfl; refine bk (h := ?_); refine blk_put (cs := #[.int .i64 t225, .int .i64 t226, .int .i64 t227, .int .i64 0, .int .i64 0, .int .i64 0]) ?_ 3 _ rfl; refine bk (h := ?_); refine blk_put (cs := #[.int .i64 t225, .int .i64 t226, .int .i64 0, .int .i64 0, .int .i64 0, .int .i64 0]) ?_ 2 _ rfl; refine bk (h := ?_); refine blk_put (cs := #[.int .i64 t225, .int .i64 0, .int .i64 0, .int .i64 0, .int .i64 0, .int .i64 0]) ?_ 1 _ rfl; refine bk (h := ?_); refine blk_put (cs := #[.int .i64 0, .int .i64 0, .int .i64 0, .int .i64 0, .int .i64 0, .int .i64 0]) ?_ 0 _ rfl; refine bk (h := ?_); exact BK224.out) Try.underlying130 rfl (by kernel_rfl)) rfl ?_
  exact ⟨er, bw⟩

/-! ### impl_rectangle: function 94 -/
def impl_rectangle.f (a0 : Int) (a1 : Int) (a2 : Int) (a3 : Int) : Option ((List (S130))) := (impl_corner.f a0 a1).bind fun bt231 => ((impl_corner.f (wrap64 (a0 + a2)) a1).bind fun bt237 => ((impl_corner.f (wrap64 (a0 + a2)) (wrap64 (a1 + a3))).bind fun bt243 => ((impl_corner.f a0 (wrap64 (a1 + a3))).bind fun bt249 => (some (([(⟨(⟨bt231.1, bt231.2.1, bt231.2.2.1⟩ : S94), (⟨bt231.2.2.2.1, bt231.2.2.2.2.1, bt231.2.2.2.2.2⟩ : S94)⟩ : S130), (⟨(⟨bt237.1, bt237.2.1, bt237.2.2.1⟩ : S94), (⟨bt237.2.2.2.1, bt237.2.2.2.2.1, bt237.2.2.2.2.2⟩ : S94)⟩ : S130), (⟨(⟨bt243.1, bt243.2.1, bt243.2.2.1⟩ : S94), (⟨bt243.2.2.2.1, bt243.2.2.2.2.1, bt243.2.2.2.2.2⟩ : S94)⟩ : S130), (⟨(⟨bt249.1, bt249.2.1, bt249.2.2.1⟩ : S94), (⟨bt249.2.2.2.1, bt249.2.2.2.2.1, bt249.2.2.2.2.2⟩ : S94)⟩ : S130)] : List (S130)))))))
set_option maxHeartbeats 8000000 in
set_option maxRecDepth 100000 in
theorem impl_rectangle.calls (a0 : Int) (a1 : Int) (a2 : Int) (a3 : Int) (r : List (S130)) (w : World) (h : impl_rectangle.f a0 a1 a2 a3 = some r) :
    Calls Try.prog 94 #[.int .i64 a0, .int .i64 a1, .int .i64 a2, .int .i64 a3] w fun e w' => ∃ v0_ : Value, e = .returned (v0_) ∧ Kd.R k130 130 w' w.heap.size (fun _ => True) v0_ r ∧ Below w.heap.size w w' := by
  have HB := Aside0.mk (Below.refl w.heap.size w)
  have H : ((impl_corner.f a0 a1).bind fun bt231 => ((impl_corner.f (wrap64 (a0 + a2)) a1).bind fun bt237 => ((impl_corner.f (wrap64 (a0 + a2)) (wrap64 (a1 + a3))).bind fun bt243 => ((impl_corner.f a0 (wrap64 (a1 + a3))).bind fun bt249 => (some (([(⟨(⟨bt231.1, bt231.2.1, bt231.2.2.1⟩ : S94), (⟨bt231.2.2.2.1, bt231.2.2.2.2.1, bt231.2.2.2.2.2⟩ : S94)⟩ : S130), (⟨(⟨bt237.1, bt237.2.1, bt237.2.2.1⟩ : S94), (⟨bt237.2.2.2.1, bt237.2.2.2.2.1, bt237.2.2.2.2.2⟩ : S94)⟩ : S130), (⟨(⟨bt243.1, bt243.2.1, bt243.2.2.1⟩ : S94), (⟨bt243.2.2.2.1, bt243.2.2.2.2.1, bt243.2.2.2.2.2⟩ : S94)⟩ : S130), (⟨(⟨bt249.1, bt249.2.1, bt249.2.2.1⟩ : S94), (⟨bt249.2.2.2.1, bt249.2.2.2.2.1, bt249.2.2.2.2.2⟩ : S94)⟩ : S130)] : List (S130)))))))) = some r := h
  clear h
  replace H := Option.bind_eq_some_iff.mp H
  obtain ⟨⟨t231, t232, t233, t234, t235, t236⟩, A50, H⟩ := H
  replace H : ((impl_corner.f (wrap64 (a0 + a2)) a1).bind fun bt237 => ((impl_corner.f (wrap64 (a0 + a2)) (wrap64 (a1 + a3))).bind fun bt243 => ((impl_corner.f a0 (wrap64 (a1 + a3))).bind fun bt249 => (some (([(⟨(⟨t231, t232, t233⟩ : S94), (⟨t234, t235, t236⟩ : S94)⟩ : S130), (⟨(⟨bt237.1, bt237.2.1, bt237.2.2.1⟩ : S94), (⟨bt237.2.2.2.1, bt237.2.2.2.2.1, bt237.2.2.2.2.2⟩ : S94)⟩ : S130), (⟨(⟨bt243.1, bt243.2.1, bt243.2.2.1⟩ : S94), (⟨bt243.2.2.2.1, bt243.2.2.2.2.1, bt243.2.2.2.2.2⟩ : S94)⟩ : S130), (⟨(⟨bt249.1, bt249.2.1, bt249.2.2.1⟩ : S94), (⟨bt249.2.2.2.1, bt249.2.2.2.2.1, bt249.2.2.2.2.2⟩ : S94)⟩ : S130)] : List (S130))))))) = some r := H
  have A5 := Aside0.mk A50
  clear A50
  replace H := Option.bind_eq_some_iff.mp H
  obtain ⟨⟨t237, t238, t239, t240, t241, t242⟩, A60, H⟩ := H
  replace H : ((impl_corner.f (wrap64 (a0 + a2)) (wrap64 (a1 + a3))).bind fun bt243 => ((impl_corner.f a0 (wrap64 (a1 + a3))).bind fun bt249 => (some (([(⟨(⟨t231, t232, t233⟩ : S94), (⟨t234, t235, t236⟩ : S94)⟩ : S130), (⟨(⟨t237, t238, t239⟩ : S94), (⟨t240, t241, t242⟩ : S94)⟩ : S130), (⟨(⟨bt243.1, bt243.2.1, bt243.2.2.1⟩ : S94), (⟨bt243.2.2.2.1, bt243.2.2.2.2.1, bt243.2.2.2.2.2⟩ : S94)⟩ : S130), (⟨(⟨bt249.1, bt249.2.1, bt249.2.2.1⟩ : S94), (⟨bt249.2.2.2.1, bt249.2.2.2.2.1, bt249.2.2.2.2.2⟩ : S94)⟩ : S130)] : List (S130)))))) = some r := H
  have A6 := Aside0.mk A60
  clear A60
  replace H := Option.bind_eq_some_iff.mp H
  obtain ⟨⟨t243, t244, t245, t246, t247, t248⟩, A70, H⟩ := H
  replace H : ((impl_corner.f a0 (wrap64 (a1 + a3))).bind fun bt249 => (some (([(⟨(⟨t231, t232, t233⟩ : S94), (⟨t234, t235, t236⟩ : S94)⟩ : S130), (⟨(⟨t237, t238, t239⟩ : S94), (⟨t240, t241, t242⟩ : S94)⟩ : S130), (⟨(⟨t243, t244, t245⟩ : S94), (⟨t246, t247, t248⟩ : S94)⟩ : S130), (⟨(⟨bt249.1, bt249.2.1, bt249.2.2.1⟩ : S94), (⟨bt249.2.2.2.1, bt249.2.2.2.2.1, bt249.2.2.2.2.2⟩ : S94)⟩ : S130)] : List (S130))))) = some r := H
  have A7 := Aside0.mk A70
  clear A70
  replace H := Option.bind_eq_some_iff.mp H
  obtain ⟨⟨t249, t250, t251, t252, t253, t254⟩, A80, H⟩ := H
  replace H : (some (([(⟨(⟨t231, t232, t233⟩ : S94), (⟨t234, t235, t236⟩ : S94)⟩ : S130), (⟨(⟨t237, t238, t239⟩ : S94), (⟨t240, t241, t242⟩ : S94)⟩ : S130), (⟨(⟨t243, t244, t245⟩ : S94), (⟨t246, t247, t248⟩ : S94)⟩ : S130), (⟨(⟨t249, t250, t251⟩ : S94), (⟨t252, t253, t254⟩ : S94)⟩ : S130)] : List (S130)))) = some r := H
  have A8 := Aside0.mk A80
  clear A80
  obtain ⟨y255, hy255⟩ : ∃ y_ : List (S130), y_ = (([(⟨(⟨t231, t232, t233⟩ : S94), (⟨t234, t235, t236⟩ : S94)⟩ : S130), (⟨(⟨t237, t238, t239⟩ : S94), (⟨t240, t241, t242⟩ : S94)⟩ : S130), (⟨(⟨t243, t244, t245⟩ : S94), (⟨t246, t247, t248⟩ : S94)⟩ : S130), (⟨(⟨t249, t250, t251⟩ : S94), (⟨t252, t253, t254⟩ : S94)⟩ : S130)] : List (S130))) := ⟨_, rfl⟩
  replace H : (some y255) = some r := by first | (rw [hy255]; with_reducible exact H) | (have H2_ := (Option.bind_some _ _).symm.trans H; rw [hy255]; with_reducible exact H2_) | (have H2_ := (Option.bind_some _ _).symm.trans H; with_reducible exact H2_) | with_reducible exact H | (rw [hy255]; exact H) | exact H
  have Ny255 := Aside0.mk hy255
  clear hy255
  obtain rfl := Option.some.inj H
  go_enter Try.func94, Try.ntmps94
  go_wp2_with (first | ((with_reducible refine gate_callee (f := 107) rfl ?_); refine gl (some 11) Try.func107 #[.int .i64 a0, .int .i64 a1] ?_; (with_reducible refine (impl_corner.calls a0 a1 t231 t232 t233 t234 t235 t236 _ A5.out).mono ?_); rintro e w9 ⟨rfl, hb⟩; refine ⟨_, rfl, ?_⟩; replace HB := bs hb; (try clear hb); (try clear hb2); (try clear hk); (try clear hi)) | ((with_reducible refine gate_callee (f := 107) rfl ?_); refine gl (some 16) Try.func107 #[.int .i64 (wrap64 (a0 + a2)), .int .i64 a1] ?_; (with_reducible refine (impl_corner.calls (wrap64 (a0 + a2)) a1 t237 t238 t239 t240 t241 t242 _ A6.out).mono ?_); rintro e w10 ⟨rfl, hb⟩; refine ⟨_, rfl, ?_⟩; replace HB := bs hb; (try clear hb); (try clear hb2); (try clear hk); (try clear hi)) | ((with_reducible refine gate_callee (f := 107) rfl ?_); refine gl (some 23) Try.func107 #[.int .i64 (wrap64 (a0 + a2)), .int .i64 (wrap64 (a1 + a3))] ?_; (with_reducible refine (impl_corner.calls (wrap64 (a0 + a2)) (wrap64 (a1 + a3)) t243 t244 t245 t246 t247 t248 _ A7.out).mono ?_); rintro e w11 ⟨rfl, hb⟩; refine ⟨_, rfl, ?_⟩; replace HB := bs hb; (try clear hb); (try clear hb2); (try clear hk); (try clear hi)) | ((with_reducible refine gate_callee (f := 107) rfl ?_); refine gl (some 28) Try.func107 #[.int .i64 a0, .int .i64 (wrap64 (a1 + a3))] ?_; (with_reducible refine (impl_corner.calls a0 (wrap64 (a1 + a3)) t249 t250 t251 t252 t253 t254 _ A8.out).mono ?_); rintro e w12 ⟨rfl, hb⟩; refine ⟨_, rfl, ?_⟩; replace HB := bs hb; (try clear hb); (try clear hb2); (try clear hk); (try clear hi)) | ((with_reducible refine gate_dst (N := 29) rfl ?_); refine Kd.R_lit k130 _ 130 ?hg (N := 29) ?hd (xs := ([(⟨(⟨t231, t232, t233⟩ : S94), (⟨t234, t235, t236⟩ : S94)⟩ : S130), (⟨(⟨t237, t238, t239⟩ : S94), (⟨t240, t241, t242⟩ : S94)⟩ : S130), (⟨(⟨t243, t244, t245⟩ : S94), (⟨t246, t247, t248⟩ : S94)⟩ : S130), (⟨(⟨t249, t250, t251⟩ : S94), (⟨t252, t253, t254⟩ : S94)⟩ : S130)] : List (S130))) (inner := [.int .i64 t231, .int .i64 t232, .int .i64 t233, .int .i64 t234, .int .i64 t235, .int .i64 t236, .int .i64 t237, .int .i64 t238, .int .i64 t239, .int .i64 t240, .int .i64 t241, .int .i64 t242, .int .i64 t243, .int .i64 t244, .int .i64 t245, .int .i64 t246, .int .i64 t247, .int .i64 t248, .int .i64 t249, .int .i64 t250, .int .i64 t251, .int .i64 t252, .int .i64 t253, .int .i64 t254]) (ok := fun _ => True) (okp := fun _ => True) ?hr ?hp (fun _ hk => hk) trivial (Below.refl _ _) (Nat.le_refl _) (by simp) ?_; (case hd => rfl); (case hg => rfl); (case hr => first | (go_simp; done) | (go_simp; rfl)); (case hp => exact (Reps.c6 (show Kd.M k130 _ _ _ (⟨(⟨t231, t232, t233⟩ : S94), (⟨t234, t235, t236⟩ : S94)⟩ : S130) [.int .i64 t231, .int .i64 t232, .int .i64 t233, .int .i64 t234, .int .i64 t235, .int .i64 t236] from (k130_mkM _ _ _ (⟨(⟨t231, t232, t233⟩ : S94), (⟨t234, t235, t236⟩ : S94)⟩ : S130) )) (Reps.c6 (show Kd.M k130 _ _ _ (⟨(⟨t237, t238, t239⟩ : S94), (⟨t240, t241, t242⟩ : S94)⟩ : S130) [.int .i64 t237, .int .i64 t238, .int .i64 t239, .int .i64 t240, .int .i64 t241, .int .i64 t242] from (k130_mkM _ _ _ (⟨(⟨t237, t238, t239⟩ : S94), (⟨t240, t241, t242⟩ : S94)⟩ : S130) )) (Reps.c6 (show Kd.M k130 _ _ _ (⟨(⟨t243, t244, t245⟩ : S94), (⟨t246, t247, t248⟩ : S94)⟩ : S130) [.int .i64 t243, .int .i64 t244, .int .i64 t245, .int .i64 t246, .int .i64 t247, .int .i64 t248] from (k130_mkM _ _ _ (⟨(⟨t243, t244, t245⟩ : S94), (⟨t246, t247, t248⟩ : S94)⟩ : S130) )) (Reps.c6 (show Kd.M k130 _ _ _ (⟨(⟨t249, t250, t251⟩ : S94), (⟨t252, t253, t254⟩ : S94)⟩ : S130) [.int .i64 t249, .int .i64 t250, .int .i64 t251, .int .i64 t252, .int .i64 t253, .int .i64 t254] from (k130_mkM _ _ _ (⟨(⟨t249, t250, t251⟩ : S94), (⟨t252, t253, t254⟩ : S94)⟩ : S130) )) (Reps.none _ _)))))); intro v256 w13 ho14 hb hg_ hnew_; clear hg_ hnew_; (first | rw [← Ny255.out] at ho14 | (simp only [Int.reduceToNat] at ho14; rw [← Ny255.out] at ho14)); have HO257 := Aside0.mk (Kd.R_lower ho14 (below_size bw)); replace HB := bs hb; clear hb ho14))
  go_ret
  exact ⟨_, er, by refine ra (h := ?_); exact HO257.out, bw⟩

/-! ### impl_squareMotion: function 95 -/
def impl_squareMotion.j0 : Nat → Int → Int → Bool → Int → Int → Int → Int → Int → Int → Option (Int × Bool × Int × Int × Int × Int × Int × Int)
  | 0, _, _, _, _, _, _, _, _, _ => none
  | k + 1, x0, x266000, x266001, x266002, x266003, x266004, x266005, x266006, x266007 => if (Int.tmod x0 2) = 1 then ((impl_whole.f (wrap64 (x0 + 1))).bind fun bt269 => (some (x266000, x266001, x266002, x266003, x266004, bt269.1, bt269.2.1, bt269.2.2))) else (some (x266000, x266001, x266002, x266003, x266004, x266005, x266006, x266007))
def impl_squareMotion.f (k : Nat) (a0 : Int) (a1 : Int) : Option (Int × Bool × Int × Int × Int × Int × Int × Int) := (impl_whole.f (wrap64 (-a1))).bind fun bt259 => ((impl_whole.f (wrap64 (-a0))).bind fun bt262 => (if (Int.tmod a1 2) = 1 then ((impl_whole.f (wrap64 (a1 + 1))).bind fun bt266 => (impl_squareMotion.j0 k a0 4 ((Int.tmod (wrap64 (a0 + a1)) 2) == 1) bt266.1 bt266.2.1 bt266.2.2 bt262.1 bt262.2.1 bt262.2.2)) else (impl_squareMotion.j0 k a0 0 ((Int.tmod (wrap64 (a0 + a1)) 2) == 1) bt259.1 bt259.2.1 bt259.2.2 bt262.1 bt262.2.1 bt262.2.2)))
theorem impl_squareMotion.mono_l : ∀ k, (∀ y0 y1 y2 y3 y4 y5 y6 y7 y8, LeO (impl_squareMotion.j0 k y0 y1 y2 y3 y4 y5 y6 y7 y8) (impl_squareMotion.j0 (k + 1) y0 y1 y2 y3 y4 y5 y6 y7 y8))
  | 0 => fun _ _ _ _ _ _ _ _ _ r h => by simp [impl_squareMotion.j0] at h
  | k + 1 => by
    have ih0 := impl_squareMotion.mono_l k
    · intro y0 y1 y2 y3 y4 y5 y6 y7 y8
      unfold impl_squareMotion.j0
      repeat' first
      | (with_reducible exact ih0 _ _ _ _ _ _ _ _ _)
      | (with_reducible exact LeO.refl _)
      | (with_reducible exact LeO.none _)
      | (with_reducible refine LeO.ite ?_ ?_)
      | (with_reducible refine LeO.bind ?_ (fun _ => ?_))
      | exact ih0 _ _ _ _ _ _ _ _ _
      | exact LeO.none _
      | refine LeO.ite ?_ ?_
      | refine LeO.bind ?_ (fun _ => ?_)
theorem impl_squareMotion.mono : ∀ a0 a1 k, LeO (impl_squareMotion.f k a0 a1) (impl_squareMotion.f (k + 1) a0 a1) := by
  intro a0 a1 k
  have ih0 := impl_squareMotion.mono_l k
  unfold impl_squareMotion.f
  repeat' first
      | (with_reducible exact ih0 _ _ _ _ _ _ _ _ _)
      | (with_reducible exact LeO.refl _)
      | (with_reducible exact LeO.none _)
      | (with_reducible refine LeO.ite ?_ ?_)
      | (with_reducible refine LeO.bind ?_ (fun _ => ?_))
      | exact ih0 _ _ _ _ _ _ _ _ _
      | exact LeO.none _
      | refine LeO.ite ?_ ?_
      | refine LeO.bind ?_ (fun _ => ?_)
set_option maxHeartbeats 8000000 in
set_option maxRecDepth 100000 in
theorem impl_squareMotion.calls (k : Nat) (a0 : Int) (a1 : Int) (r1 : Int) (r2 : Bool) (r3 : Int) (r4 : Int) (r5 : Int) (r6 : Int) (r7 : Int) (r8 : Int) (w : World) (h : impl_squareMotion.f k a0 a1 = some (r1, r2, r3, r4, r5, r6, r7, r8)) :
    Calls Try.prog 95 #[.int .i64 a0, .int .i64 a1] w fun e w' => e = .returned (.agg #[.int .i64 r1, .bool r2, .int .i64 r3, .int .i64 r4, .int .i64 r5, .int .i64 r6, .int .i64 r7, .int .i64 r8]) ∧ Below w.heap.size w w' := by
  have hu118 := Try.underlying118
  have hu94 := Try.underlying94
  have HB := Aside0.mk (Below.refl w.heap.size w)
  have H : ((impl_whole.f (wrap64 (-a1))).bind fun bt259 => ((impl_whole.f (wrap64 (-a0))).bind fun bt262 => (if (Int.tmod a1 2) = 1 then ((impl_whole.f (wrap64 (a1 + 1))).bind fun bt266 => (impl_squareMotion.j0 k a0 4 ((Int.tmod (wrap64 (a0 + a1)) 2) == 1) bt266.1 bt266.2.1 bt266.2.2 bt262.1 bt262.2.1 bt262.2.2)) else (impl_squareMotion.j0 k a0 0 ((Int.tmod (wrap64 (a0 + a1)) 2) == 1) bt259.1 bt259.2.1 bt259.2.2 bt262.1 bt262.2.1 bt262.2.2)))) = some (r1, r2, r3, r4, r5, r6, r7, r8) := h
  clear h
  replace H := Option.bind_eq_some_iff.mp H
  obtain ⟨⟨t259, t260, t261⟩, A30, H⟩ := H
  replace H : ((impl_whole.f (wrap64 (-a0))).bind fun bt262 => (if (Int.tmod a1 2) = 1 then ((impl_whole.f (wrap64 (a1 + 1))).bind fun bt266 => (impl_squareMotion.j0 k a0 4 ((Int.tmod (wrap64 (a0 + a1)) 2) == 1) bt266.1 bt266.2.1 bt266.2.2 bt262.1 bt262.2.1 bt262.2.2)) else (impl_squareMotion.j0 k a0 0 ((Int.tmod (wrap64 (a0 + a1)) 2) == 1) t259 t260 t261 bt262.1 bt262.2.1 bt262.2.2))) = some (r1, r2, r3, r4, r5, r6, r7, r8) := H
  have A3 := Aside0.mk A30
  clear A30
  replace H := Option.bind_eq_some_iff.mp H
  obtain ⟨⟨t262, t263, t264⟩, A40, H⟩ := H
  replace H : (if (Int.tmod a1 2) = 1 then ((impl_whole.f (wrap64 (a1 + 1))).bind fun bt266 => (impl_squareMotion.j0 k a0 4 ((Int.tmod (wrap64 (a0 + a1)) 2) == 1) bt266.1 bt266.2.1 bt266.2.2 t262 t263 t264)) else (impl_squareMotion.j0 k a0 0 ((Int.tmod (wrap64 (a0 + a1)) 2) == 1) t259 t260 t261 t262 t263 t264)) = some (r1, r2, r3, r4, r5, r6, r7, r8) := H
  have A4 := Aside0.mk A40
  clear A40
  have HC5 := Aside0.mk H
  clear H
  go_enter Try.func95, Try.ntmps95
  go_upto_if 20 with (first | ((with_reducible refine gate_dst (N := 4) rfl ?_); refine bx #[.int .i64 0, .bool false, .int .i64 0, .int .i64 0, .int .i64 0, .int .i64 0, .int .i64 0, .int .i64 0] 118 ?_; intro gb258 hg w6 hbox hb; have BK258 := Aside0.mk hbox; have GW258 := bg hg; have GE258 := bg hg; replace HB := bs hb; clear hb hbox hg) | ((with_reducible refine gate_callee (f := 148) rfl ?_); refine gl (some 13) Try.func148 #[.int .i64 (wrap64 (-a1))] ?_; (with_reducible refine (impl_whole.calls (wrap64 (-a1)) t259 t260 t261 _ A3.out).mono ?_); rintro e w7 ⟨rfl, hb⟩; refine ⟨_, rfl, ?_⟩; replace BK258 := bb BK258 hb; replace HB := bs hb; (try clear hb); (try clear hb2); (try clear hk); (try clear hi)) | ((with_reducible refine gate_callee (f := 148) rfl ?_); refine gl (some 16) Try.func148 #[.int .i64 (wrap64 (-a0))] ?_; (with_reducible refine (impl_whole.calls (wrap64 (-a0)) t262 t263 t264 _ A4.out).mono ?_); rintro e w8 ⟨rfl, hb⟩; refine ⟨_, rfl, ?_⟩; replace BK258 := bb BK258 hb; replace HB := bs hb; (try clear hb); (try clear hb2); (try clear hk); (try clear hi)) | ((with_reducible refine gate_dst (N := 5) rfl ?_); refine bx #[.int .i64 0, .bool false, .int .i64 0, .int .i64 0, .int .i64 0, .int .i64 0, .int .i64 0, .int .i64 0] 118 ?_; intro gb265 hg w9 hbox hb; have BK265 := Aside0.mk hbox; have GW265 := bg hg; have GE265 := bg hg; have NB258_265 := bl BK258 hg; have NB265_258 := bv BK258 hg; replace BK258 := bb BK258 hb; replace HB := bs hb; clear hb hbox hg; have hnb10 := NB265_258.out; have hnc10 := NB258_265.out; obtain ⟨z11_0, z11_1, z11_2, z11_3, z11_4, z11_5, z11_6, z11_7, y11_0, y11_1, y11_2, y11_3, y11_4, y11_5, y11_6, y11_7⟩ := bq8 BK265))
  (try simp only [Act.put, List.setIfInBounds_toArray, List.set_cons_zero, List.set_cons_succ])
  go_cut [] (fun wc => ∃ (kq : Nat) (x266000_4 : Int) (x266002_4 : Int) (x266003_4 : Int) (x266004_4 : Int), Aside0 (impl_squareMotion.j0 kq a0 x266000_4 ((Int.tmod (wrap64 (a0 + a1)) 2) == 1) x266002_4 x266003_4 x266004_4 t262 t263 t264 = some (r1, r2, r3, r4, r5, r6, r7, r8)) ∧ Aside0 (kq ≤ k) ∧ Aside0 (wc.heap[gb258]? = some (.cells #[.int .i64 0, .bool false, .int .i64 0, .int .i64 0, .int .i64 0, .int .i64 0, .int .i64 0, .int .i64 0] 118 (0, 0))) ∧ Aside0 (wc.heap[gb265]? = some (.cells #[.int .i64 x266000_4, .bool ((Int.tmod (wrap64 (a0 + a1)) 2) == 1), .int .i64 x266002_4, .int .i64 x266003_4, .int .i64 x266004_4, .int .i64 t262, .int .i64 t263, .int .i64 t264] 118 (0, 0))) ∧ Aside0 (Below w.heap.size w wc))
  case first =>
    have H := HC5.out
    clear HC5
    by_cases c12 : (Int.tmod a1 2) = 1
    · rw [if_pos c12] at H
      have c12b0 : ((Int.tmod a1 2) == 1) = true := beq_iff_eq.mpr c12
      have c12b1 : ((Int.tmod a1 2) != 1) = false := bne_eq_false_iff_eq.mpr c12
      clear c12
      (first | rw [c12b0] | (simp only [i64_w, i32_w]; rw [c12b0]) | skip)
      replace H := Option.bind_eq_some_iff.mp H
      obtain ⟨⟨t266, t267, t268⟩, A130, H⟩ := H
      replace H : (impl_squareMotion.j0 k a0 4 ((Int.tmod (wrap64 (a0 + a1)) 2) == 1) t266 t267 t268 t262 t263 t264) = some (r1, r2, r3, r4, r5, r6, r7, r8) := H
      have A13 := Aside0.mk A130
      clear A130
      have H' := Aside0.mk H
      clear H
      go_wp2_with (first | ((with_reducible refine gate_callee (f := 148) rfl ?_); refine gl (some 23) Try.func148 #[.int .i64 (wrap64 (a1 + 1))] ?_; (with_reducible refine (impl_whole.calls (wrap64 (a1 + 1)) t266 t267 t268 _ A13.out).mono ?_); rintro e w14 ⟨rfl, hb⟩; refine ⟨_, rfl, ?_⟩; replace BK258 := Aside0.mk (blk_below (g := gb258) (o := .cells #[.int .i64 0, .bool false, .int .i64 0, .int .i64 0, .int .i64 0, .int .i64 0, .int .i64 0, .int .i64 0] 118 (0, 0)) (by refine bk (h := ?_); refine blk_far ?_ NB258_265.out _; refine bk (h := ?_); refine blk_far ?_ NB258_265.out _; refine bk (h := ?_); refine blk_far ?_ NB258_265.out _; refine bk (h := ?_); refine blk_far ?_ NB258_265.out _; refine bk (h := ?_); refine blk_far ?_ NB258_265.out _; refine bk (h := ?_); refine blk_far ?_ NB258_265.out _; refine bk (h := ?_); refine blk_far ?_ NB258_265.out _; refine bk (h := ?_); refine blk_far ?_ NB258_265.out _; refine bk (h := ?_); exact BK258.out) hb); replace BK265 := Aside0.mk (blk_below (g := gb265) (o := .cells #[.int .i64 0, .bool ((Int.tmod (wrap64 (a0 + a1)) 2) == 1), .int .i64 t259, .int .i64 t260, .int .i64 t261, .int .i64 t262, .int .i64 t263, .int .i64 t264] 118 (0, 0)) (by refine bk (h := ?_); refine blk_put (cs := #[.int .i64 0, .bool ((Int.tmod (wrap64 (a0 + a1)) 2) == 1), .int .i64 t259, .int .i64 t260, .int .i64 t261, .int .i64 t262, .int .i64 t263, .int .i64 0]) ?_ 7 _ rfl; refine bk (h := ?_); refine blk_put (cs := #[.int .i64 0, .bool ((Int.tmod (wrap64 (a0 + a1)) 2) == 1), .int .i64 t259, .int .i64 t260, .int .i64 t261, .int .i64 t262, .int .i64 0, .int .i64 0]) ?_ 6 _ rfl; refine bk (h := ?_); refine blk_put (cs := #[.int .i64 0, .bool ((Int.tmod (wrap64 (a0 + a1)) 2) == 1), .int .i64 t259, .int .i64 t260, .int .i64 t261, .int .i64 0, .int .i64 0, .int .i64 0]) ?_ 5 _ rfl; refine bk (h := ?_); refine blk_put (cs := #[.int .i64 0, .bool ((Int.tmod (wrap64 (a0 + a1)) 2) == 1), .int .i64 t259, .int .i64 t260, .int .i64 0, .int .i64 0, .int .i64 0, .int .i64 0]) ?_ 4 _ rfl; refine bk (h := ?_); refine blk_put (cs := #[.int .i64 0, .bool ((Int.tmod (wrap64 (a0 + a1)) 2) == 1), .int .i64 t259, .int .i64 0, .int .i64 0, .int .i64 0, .int .i64 0, .int .i64 0]) ?_ 3 _ rfl; refine bk (h := ?_); refine blk_put (cs := #[.int .i64 0, .bool ((Int.tmod (wrap64 (a0 + a1)) 2) == 1), .int .i64 0, .int .i64 0, .int .i64 0, .int .i64 0, .int .i64 0, .int .i64 0]) ?_ 2 _ rfl; refine bk (h := ?_); refine blk_put (cs := #[.int .i64 0, .bool false, .int .i64 0, .int .i64 0, .int .i64 0, .int .i64 0, .int .i64 0, .int .i64 0]) ?_ 1 _ rfl; refine bk (h := ?_); refine blk_put (cs := #[.int .i64 0, .bool false, .int .i64 0, .int .i64 0, .int .i64 0, .int .i64 0, .int .i64 0, .int .i64 0]) ?_ 0 _ rfl; refine bk (h := ?_); exact BK265.out) hb); replace HB := bs hb; (try clear hb); (try clear hb2); (try clear hk); (try clear hi); have hnb15 := NB265_258.out; have hnc15 := NB258_265.out; obtain ⟨z16_0, z16_1, z16_2, z16_3, z16_4, z16_5, z16_6, z16_7, y16_0, y16_1, y16_2, y16_3, y16_4, y16_5, y16_6, y16_7⟩ := bq8 BK265))
      go_meet
      case rel => exact ⟨_, (4), (t266), (t267), (t268), H', ⟨by first | omega | exact Nat.le_refl _⟩, ⟨by refine bk (h := ?_); refine blk_far ?_ NB258_265.out _; refine bk (h := ?_); refine blk_far ?_ NB258_265.out _; refine bk (h := ?_); refine blk_far ?_ NB258_265.out _; refine bk (h := ?_); refine blk_far ?_ NB258_265.out _; refine bk (h := ?_); exact BK258.out⟩, ⟨by refine bk (h := ?_); refine blk_put (cs := #[.int .i64 4, .bool ((Int.tmod (wrap64 (a0 + a1)) 2) == 1), .int .i64 t266, .int .i64 t267, .int .i64 t261, .int .i64 t262, .int .i64 t263, .int .i64 t264]) ?_ 4 _ rfl; refine bk (h := ?_); refine blk_put (cs := #[.int .i64 4, .bool ((Int.tmod (wrap64 (a0 + a1)) 2) == 1), .int .i64 t266, .int .i64 t260, .int .i64 t261, .int .i64 t262, .int .i64 t263, .int .i64 t264]) ?_ 3 _ rfl; refine bk (h := ?_); refine blk_put (cs := #[.int .i64 4, .bool ((Int.tmod (wrap64 (a0 + a1)) 2) == 1), .int .i64 t259, .int .i64 t260, .int .i64 t261, .int .i64 t262, .int .i64 t263, .int .i64 t264]) ?_ 2 _ rfl; refine bk (h := ?_); refine blk_put (cs := #[.int .i64 0, .bool ((Int.tmod (wrap64 (a0 + a1)) 2) == 1), .int .i64 t259, .int .i64 t260, .int .i64 t261, .int .i64 t262, .int .i64 t263, .int .i64 t264]) ?_ 0 _ rfl; refine bk (h := ?_); exact BK265.out⟩, ⟨bw⟩⟩
    · rw [if_neg c12] at H
      have c12b0 : ((Int.tmod a1 2) == 1) = false := beq_eq_false_iff_ne.mpr c12
      have c12b1 : ((Int.tmod a1 2) != 1) = true := bne_iff_ne.mpr c12
      (first | rw [c12b0] | (simp only [i64_w, i32_w]; rw [c12b0]) | skip)
      have H' := Aside0.mk H
      clear H
      go_wp2
      go_meet
      case rel => exact ⟨_, (0), (t259), (t260), (t261), H', ⟨by first | omega | exact Nat.le_refl _⟩, ⟨by refine bk (h := ?_); refine blk_far ?_ NB258_265.out _; refine bk (h := ?_); refine blk_far ?_ NB258_265.out _; refine bk (h := ?_); refine blk_far ?_ NB258_265.out _; refine bk (h := ?_); refine blk_far ?_ NB258_265.out _; refine bk (h := ?_); refine blk_far ?_ NB258_265.out _; refine bk (h := ?_); refine blk_far ?_ NB258_265.out _; refine bk (h := ?_); refine blk_far ?_ NB258_265.out _; refine bk (h := ?_); refine blk_far ?_ NB258_265.out _; refine bk (h := ?_); exact BK258.out⟩, ⟨by refine bk (h := ?_); refine blk_put (cs := #[.int .i64 0, .bool ((Int.tmod (wrap64 (a0 + a1)) 2) == 1), .int .i64 t259, .int .i64 t260, .int .i64 t261, .int .i64 t262, .int .i64 t263, .int .i64 0]) ?_ 7 _ rfl; refine bk (h := ?_); refine blk_put (cs := #[.int .i64 0, .bool ((Int.tmod (wrap64 (a0 + a1)) 2) == 1), .int .i64 t259, .int .i64 t260, .int .i64 t261, .int .i64 t262, .int .i64 0, .int .i64 0]) ?_ 6 _ rfl; refine bk (h := ?_); refine blk_put (cs := #[.int .i64 0, .bool ((Int.tmod (wrap64 (a0 + a1)) 2) == 1), .int .i64 t259, .int .i64 t260, .int .i64 t261, .int .i64 0, .int .i64 0, .int .i64 0]) ?_ 5 _ rfl; refine bk (h := ?_); refine blk_put (cs := #[.int .i64 0, .bool ((Int.tmod (wrap64 (a0 + a1)) 2) == 1), .int .i64 t259, .int .i64 t260, .int .i64 0, .int .i64 0, .int .i64 0, .int .i64 0]) ?_ 4 _ rfl; refine bk (h := ?_); refine blk_put (cs := #[.int .i64 0, .bool ((Int.tmod (wrap64 (a0 + a1)) 2) == 1), .int .i64 t259, .int .i64 0, .int .i64 0, .int .i64 0, .int .i64 0, .int .i64 0]) ?_ 3 _ rfl; refine bk (h := ?_); refine blk_put (cs := #[.int .i64 0, .bool ((Int.tmod (wrap64 (a0 + a1)) 2) == 1), .int .i64 0, .int .i64 0, .int .i64 0, .int .i64 0, .int .i64 0, .int .i64 0]) ?_ 2 _ rfl; refine bk (h := ?_); refine blk_put (cs := #[.int .i64 0, .bool false, .int .i64 0, .int .i64 0, .int .i64 0, .int .i64 0, .int .i64 0, .int .i64 0]) ?_ 1 _ rfl; refine bk (h := ?_); refine blk_put (cs := #[.int .i64 0, .bool false, .int .i64 0, .int .i64 0, .int .i64 0, .int .i64 0, .int .i64 0, .int .i64 0]) ?_ 0 _ rfl; refine bk (h := ?_); exact BK265.out⟩, ⟨bw⟩⟩
  case rest =>
    clear HC5
    try clear c1
    try clear p2
    try clear p6
    try clear c9
    try clear c10
    try clear c12
    try clear c12b0
    try clear c12b1
    try clear c14
    try clear c15
    try clear z11_0 z11_1 z11_2 z11_3 z11_4 z11_5 z11_6 z11_7 y11_0 y11_1 y11_2 y11_3 y11_4 y11_5 y11_6 y11_7
    try clear z16_0 z16_1 z16_2 z16_3 z16_4 z16_5 z16_6 z16_7 y16_0 y16_1 y16_2 y16_3 y16_4 y16_5 y16_6 y16_7
    obtain ⟨kq, x266000_4, x266002_4, x266003_4, x266004_4, HA, HJ4, BK258, BK265, HB⟩ := hcut
    cases kq with
    | zero => exact absurd HA.out (by simp [impl_squareMotion.j0])
    | succ kj4 =>
      have H := HA.out
      clear HA
      simp only [impl_squareMotion.j0] at H
      by_cases c17 : (Int.tmod a0 2) = 1
      · rw [if_pos c17] at H
        have c17b0 : ((Int.tmod a0 2) == 1) = true := beq_iff_eq.mpr c17
        have c17b1 : ((Int.tmod a0 2) != 1) = false := bne_eq_false_iff_eq.mpr c17
        clear c17
        replace H := Option.bind_eq_some_iff.mp H
        obtain ⟨⟨t269, t270, t271⟩, A180, H⟩ := H
        replace H : (some (x266000_4, ((Int.tmod (wrap64 (a0 + a1)) 2) == 1), x266002_4, x266003_4, x266004_4, t269, t270, t271)) = some (r1, r2, r3, r4, r5, r6, r7, r8) := H
        have A18 := Aside0.mk A180
        clear A180
        simp only [Option.some.injEq, Prod.mk.injEq] at H
        obtain ⟨rfl, rfl, rfl, rfl, rfl, rfl, rfl, rfl⟩ := H
        go_wp2_with (first | ((with_reducible refine gate_callee (f := 148) rfl ?_); refine gl (some 31) Try.func148 #[.int .i64 (wrap64 (a0 + 1))] ?_; (with_reducible refine (impl_whole.calls (wrap64 (a0 + 1)) t269 t270 t271 _ A18.out).mono ?_); rintro e w19 ⟨rfl, hb⟩; refine ⟨_, rfl, ?_⟩; replace BK258 := bb BK258 hb; replace BK265 := bb BK265 hb; replace HB := bs hb; (try clear hb); (try clear hb2); (try clear hk); (try clear hi); have hnb20 := NB265_258.out; have hnc20 := NB258_265.out; obtain ⟨z21_0, z21_1, z21_2, z21_3, z21_4, z21_5, z21_6, z21_7, y21_0, y21_1, y21_2, y21_3, y21_4, y21_5, y21_6, y21_7⟩ := bq8 BK265; obtain ⟨z22_0, z22_1, z22_2, z22_3, z22_4, z22_5, z22_6, z22_7, y22_0, y22_1, y22_2, y22_3, y22_4, y22_5, y22_6, y22_7⟩ := bq8 BK258))
        refine bodyPost_ret (results_cell_row rfl _ _ gb258 118 #[.int .i64 x266000_4, .bool ((Int.tmod (wrap64 (a0 + a1)) 2) == 1), .int .i64 x266002_4, .int .i64 x266003_4, .int .i64 x266004_4, .int .i64 t269, .int .i64 t270, .int .i64 t271] (0, 0) _ rfl (by refine bk (h := ?_); refine blk_put (cs := #[.int .i64 x266000_4, .bool ((Int.tmod (wrap64 (a0 + a1)) 2) == 1), .int .i64 x266002_4, .int .i64 x266003_4, .int .i64 x266004_4, .int .i64 t269, .int .i64 t270, .int .i64 0]) ?_ 7 _ rfl; refine bk (h := ?_); refine blk_put (cs := #[.int .i64 x266000_4, .bool ((Int.tmod (wrap64 (a0 + a1)) 2) == 1), .int .i64 x266002_4, .int .i64 x266003_4, .int .i64 x266004_4, .int .i64 t269, .int .i64 0, .int .i64 0]) ?_ 6 _ rfl; refine bk (h := ?_); refine blk_put (cs := #[.int .i64 x266000_4, .bool ((Int.tmod (wrap64 (a0 + a1)) 2) == 1), .int .i64 x266002_4, .int .i64 x266003_4, .int .i64 x266004_4, .int .i64 0, .int .i64 0, .int .i64 0]) ?_ 5 _ rfl; refine bk (h := ?_); refine blk_put (cs := #[.int .i64 x266000_4, .bool ((Int.tmod (wrap64 (a0 + a1)) 2) == 1), .int .i64 x266002_4, .int .i64 x266003_4, .int .i64 0, .int .i64 0, .int .i64 0, .int .i64 0]) ?_ 4 _ rfl; refine bk (h := ?_); refine blk_put (cs := #[.int .i64 x266000_4, .bool ((Int.tmod (wrap64 (a0 + a1)) 2) == 1), .int .i64 x266002_4, .int .i64 0, .int .i64 0, .int .i64 0, .int .i64 0, .int .i64 0]) ?_ 3 _ rfl; refine bk (h := ?_); refine blk_put (cs := #[.int .i64 x266000_4, .bool ((Int.tmod (wrap64 (a0 + a1)) 2) == 1), .int .i64 0, .int .i64 0, .int .i64 0, .int .i64 0, .int .i64 0, .int .i64 0]) ?_ 2 _ rfl; refine bk (h := ?_); refine blk_put (cs := #[.int .i64 x266000_4, .bool false, .int .i64 0, .int .i64 0, .int .i64 0, .int .i64 0, .int .i64 0, .int .i64 0]) ?_ 1 _ rfl; refine bk (h := ?_); refine blk_put (cs := #[.int .i64 0, .bool false, .int .i64 0, .int .i64 0, .int .i64 0, .int .i64 0, .int .i64 0, .int .i64 0]) ?_ 0 _ rfl; refine bk (h := ?_); refine blk_far ?_ NB258_265.out _; refine bk (h := ?_); refine blk_far ?_ NB258_265.out _; refine bk (h := ?_); refine blk_far ?_ NB258_265.out _; refine bk (h := ?_); exact BK258.out) Try.underlying118 rfl (by kernel_rfl)) rfl ?_
        exact ⟨er, bw⟩
      · rw [if_neg c17] at H
        have c17b0 : ((Int.tmod a0 2) == 1) = false := beq_eq_false_iff_ne.mpr c17
        have c17b1 : ((Int.tmod a0 2) != 1) = true := bne_iff_ne.mpr c17
        simp only [Option.some.injEq, Prod.mk.injEq] at H
        obtain ⟨rfl, rfl, rfl, rfl, rfl, rfl, rfl, rfl⟩ := H
        have hnb23 := NB265_258.out
        have hnc23 := NB258_265.out
        obtain ⟨z24_0, z24_1, z24_2, z24_3, z24_4, z24_5, z24_6, z24_7, y24_0, y24_1, y24_2, y24_3, y24_4, y24_5, y24_6, y24_7⟩ := bq8 BK265
        obtain ⟨z25_0, z25_1, z25_2, z25_3, z25_4, z25_5, z25_6, z25_7, y25_0, y25_1, y25_2, y25_3, y25_4, y25_5, y25_6, y25_7⟩ := bq8 BK258
        go_wp2
        refine bodyPost_ret (results_cell_row rfl _ _ gb258 118 #[.int .i64 x266000_4, .bool ((Int.tmod (wrap64 (a0 + a1)) 2) == 1), .int .i64 x266002_4, .int .i64 x266003_4, .int .i64 x266004_4, .int .i64 t262, .int .i64 t263, .int .i64 t264] (0, 0) _ rfl (by refine bk (h := ?_); refine blk_put (cs := #[.int .i64 x266000_4, .bool ((Int.tmod (wrap64 (a0 + a1)) 2) == 1), .int .i64 x266002_4, .int .i64 x266003_4, .int .i64 x266004_4, .int .i64 t262, .int .i64 t263, .int .i64 0]) ?_ 7 _ rfl; refine bk (h := ?_); refine blk_put (cs := #[.int .i64 x266000_4, .bool ((Int.tmod (wrap64 (a0 + a1)) 2) == 1), .int .i64 x266002_4, .int .i64 x266003_4, .int .i64 x266004_4, .int .i64 t262, .int .i64 0, .int .i64 0]) ?_ 6 _ rfl; refine bk (h := ?_); refine blk_put (cs := #[.int .i64 x266000_4, .bool ((Int.tmod (wrap64 (a0 + a1)) 2) == 1), .int .i64 x266002_4, .int .i64 x266003_4, .int .i64 x266004_4, .int .i64 0, .int .i64 0, .int .i64 0]) ?_ 5 _ rfl; refine bk (h := ?_); refine blk_put (cs := #[.int .i64 x266000_4, .bool ((Int.tmod (wrap64 (a0 + a1)) 2) == 1), .int .i64 x266002_4, .int .i64 x266003_4, .int .i64 0, .int .i64 0, .int .i64 0, .int .i64 0]) ?_ 4 _ rfl; refine bk (h := ?_); refine blk_put (cs := #[.int .i64 x266000_4, .bool ((Int.tmod (wrap64 (a0 + a1)) 2) == 1), .int .i64 x266002_4, .int .i64 0, .int .i64 0, .int .i64 0, .int .i64 0, .int .i64 0]) ?_ 3 _ rfl; refine bk (h := ?_); refine blk_put (cs := #[.int .i64 x266000_4, .bool ((Int.tmod (wrap64 (a0 + a1)) 2) == 1), .int .i64 0, .int .i64 0, .int .i64 0, .int .i64 0, .int .i64 0, .int .i64 0]) ?_ 2 _ rfl; refine bk (h := ?_); refine blk_put (cs := #[.int .i64 x266000_4, .bool false, .int .i64 0, .int .i64 0, .int .i64 0, .int .i64 0, .int .i64 0, .int .i64 0]) ?_ 1 _ rfl; refine bk (h := ?_); refine blk_put (cs := #[.int .i64 0, .bool false, .int .i64 0, .int .i64 0, .int .i64 0, .int .i64 0, .int .i64 0, .int .i64 0]) ?_ 0 _ rfl; refine bk (h := ?_); exact BK258.out) Try.underlying118 rfl (by kernel_rfl)) rfl ?_
        exact ⟨er, bw⟩

/-! ### cmp_isNaN_int64: function 149 -/
def cmp_isNaN_int64.f (a0 : Int) : Option (Bool) := some (a0 != a0)
set_option maxHeartbeats 8000000 in
set_option maxRecDepth 100000 in
theorem cmp_isNaN_int64.calls (a0 : Int) (r : Bool) (w : World) (h : cmp_isNaN_int64.f a0 = some r) :
    Calls Try.prog 149 #[.int .i64 a0] w fun e w' => e = .returned (.bool r) ∧ Drawn0 w w' := by
  have H : (some (a0 != a0)) = some r := h
  clear h
  obtain rfl := Option.some.inj H
  go_enter Try.func149, Try.ntmps149
  go_wp2
  go_ret
  exact ⟨by first | rfl | (simp; done) | (simp [*]; done), by repeat (first | exact Drawn0.refl _ | apply Drawn0.step)⟩

/-! ### cmp_Compare_int64: function 96 -/
def cmp_Compare_int64.f (a0 : Int) (a1 : Int) : Option (Int) := (cmp_isNaN_int64.f a0).bind fun t272 => ((cmp_isNaN_int64.f a1).bind fun t273 => (if t272 = true then (if t273 = true then (some 0) else (some (-1))) else (if t273 = true then (some 1) else (if a0 < a1 then (some (-1)) else (if a0 > a1 then (some 1) else (some 0))))))
set_option maxHeartbeats 8000000 in
set_option maxRecDepth 100000 in
theorem cmp_Compare_int64.calls (a0 : Int) (a1 : Int) (r : Int) (w : World) (h : cmp_Compare_int64.f a0 a1 = some r) :
    Calls Try.prog 96 #[.int .i64 a0, .int .i64 a1] w fun e w' => e = .returned (.int .i64 r) ∧ Drawn0 w w' := by
  have H : ((cmp_isNaN_int64.f a0).bind fun t272 => ((cmp_isNaN_int64.f a1).bind fun t273 => (if t272 = true then (if t273 = true then (some 0) else (some (-1))) else (if t273 = true then (some 1) else (if a0 < a1 then (some (-1)) else (if a0 > a1 then (some 1) else (some 0))))))) = some r := h
  clear h
  replace H := Option.bind_eq_some_iff.mp H
  obtain ⟨t272, A30, H⟩ := H
  replace H : ((cmp_isNaN_int64.f a1).bind fun t273 => (if t272 = true then (if t273 = true then (some 0) else (some (-1))) else (if t273 = true then (some 1) else (if a0 < a1 then (some (-1)) else (if a0 > a1 then (some 1) else (some 0)))))) = some r := H
  have A3 := Aside0.mk A30
  clear A30
  replace H := Option.bind_eq_some_iff.mp H
  obtain ⟨t273, A40, H⟩ := H
  replace H : (if t272 = true then (if t273 = true then (some 0) else (some (-1))) else (if t273 = true then (some 1) else (if a0 < a1 then (some (-1)) else (if a0 > a1 then (some 1) else (some 0))))) = some r := H
  have A4 := Aside0.mk A40
  clear A40
  by_cases c5 : t272 = true
  · subst c5
    rw [if_pos rfl] at H
    by_cases c6 : t273 = true
    · subst c6
      rw [if_pos rfl] at H
      obtain rfl := Option.some.inj H
      go_enter Try.func96, Try.ntmps96
      go_wp2_with (first | ((with_reducible refine gate_callee (f := 149) rfl ?_); refine gl (some 8) Try.func149 #[.int .i64 a0] ?_; (with_reducible refine (cmp_isNaN_int64.calls a0 true _ A3.out).mono ?_); rintro e w' ⟨rfl, ⟨nd, rfl⟩⟩; refine ⟨_, rfl, ?_⟩) | ((with_reducible refine gate_callee (f := 149) rfl ?_); refine gl (some 10) Try.func149 #[.int .i64 a1] ?_; (with_reducible refine (cmp_isNaN_int64.calls a1 true _ A4.out).mono ?_); rintro e w' ⟨rfl, ⟨nd, rfl⟩⟩; refine ⟨_, rfl, ?_⟩))
      go_ret
      exact ⟨by first | rfl | (simp; done) | (simp [*]; done), by repeat (first | exact Drawn0.refl _ | apply Drawn0.step)⟩
    · replace c6 := Bool.eq_false_iff.mpr c6
      subst c6
      rw [if_neg nf] at H
      obtain rfl := Option.some.inj H
      go_enter Try.func96, Try.ntmps96
      go_wp2_with (first | ((with_reducible refine gate_callee (f := 149) rfl ?_); refine gl (some 8) Try.func149 #[.int .i64 a0] ?_; (with_reducible refine (cmp_isNaN_int64.calls a0 true _ A3.out).mono ?_); rintro e w' ⟨rfl, ⟨nd, rfl⟩⟩; refine ⟨_, rfl, ?_⟩) | ((with_reducible refine gate_callee (f := 149) rfl ?_); refine gl (some 10) Try.func149 #[.int .i64 a1] ?_; (with_reducible refine (cmp_isNaN_int64.calls a1 false _ A4.out).mono ?_); rintro e w' ⟨rfl, ⟨nd, rfl⟩⟩; refine ⟨_, rfl, ?_⟩))
      go_ret
      exact ⟨by first | rfl | (simp; done) | (simp [*]; done), by repeat (first | exact Drawn0.refl _ | apply Drawn0.step)⟩
  · replace c5 := Bool.eq_false_iff.mpr c5
    subst c5
    rw [if_neg nf] at H
    by_cases c7 : t273 = true
    · subst c7
      rw [if_pos rfl] at H
      obtain rfl := Option.some.inj H
      go_enter Try.func96, Try.ntmps96
      go_wp2_with (first | ((with_reducible refine gate_callee (f := 149) rfl ?_); refine gl (some 8) Try.func149 #[.int .i64 a0] ?_; (with_reducible refine (cmp_isNaN_int64.calls a0 false _ A3.out).mono ?_); rintro e w' ⟨rfl, ⟨nd, rfl⟩⟩; refine ⟨_, rfl, ?_⟩) | ((with_reducible refine gate_callee (f := 149) rfl ?_); refine gl (some 10) Try.func149 #[.int .i64 a1] ?_; (with_reducible refine (cmp_isNaN_int64.calls a1 true _ A4.out).mono ?_); rintro e w' ⟨rfl, ⟨nd, rfl⟩⟩; refine ⟨_, rfl, ?_⟩))
      go_ret
      exact ⟨by first | rfl | (simp; done) | (simp [*]; done), by repeat (first | exact Drawn0.refl _ | apply Drawn0.step)⟩
    · replace c7 := Bool.eq_false_iff.mpr c7
      subst c7
      rw [if_neg nf] at H
      by_cases c8 : a0 < a1
      · rw [if_pos c8] at H
        have c8b0 : decide (a0 < a1) = true := decide_eq_true c8
        clear c8
        obtain rfl := Option.some.inj H
        go_enter Try.func96, Try.ntmps96
        go_wp2_with (first | ((with_reducible refine gate_callee (f := 149) rfl ?_); refine gl (some 8) Try.func149 #[.int .i64 a0] ?_; (with_reducible refine (cmp_isNaN_int64.calls a0 false _ A3.out).mono ?_); rintro e w' ⟨rfl, ⟨nd, rfl⟩⟩; refine ⟨_, rfl, ?_⟩) | ((with_reducible refine gate_callee (f := 149) rfl ?_); refine gl (some 10) Try.func149 #[.int .i64 a1] ?_; (with_reducible refine (cmp_isNaN_int64.calls a1 false _ A4.out).mono ?_); rintro e w' ⟨rfl, ⟨nd, rfl⟩⟩; refine ⟨_, rfl, ?_⟩))
        go_ret
        exact ⟨by first | rfl | (simp; done) | (simp [*]; done), by repeat (first | exact Drawn0.refl _ | apply Drawn0.step)⟩
      · rw [if_neg c8] at H
        have c8b0 : decide (a0 < a1) = false := decide_eq_false c8
        clear c8
        by_cases c9 : a0 > a1
        · rw [if_pos c9] at H
          have c9b0 : decide (a1 < a0) = true := decide_eq_true c9
          clear c9
          obtain rfl := Option.some.inj H
          go_enter Try.func96, Try.ntmps96
          go_wp2_with (first | ((with_reducible refine gate_callee (f := 149) rfl ?_); refine gl (some 8) Try.func149 #[.int .i64 a0] ?_; (with_reducible refine (cmp_isNaN_int64.calls a0 false _ A3.out).mono ?_); rintro e w' ⟨rfl, ⟨nd, rfl⟩⟩; refine ⟨_, rfl, ?_⟩) | ((with_reducible refine gate_callee (f := 149) rfl ?_); refine gl (some 10) Try.func149 #[.int .i64 a1] ?_; (with_reducible refine (cmp_isNaN_int64.calls a1 false _ A4.out).mono ?_); rintro e w' ⟨rfl, ⟨nd, rfl⟩⟩; refine ⟨_, rfl, ?_⟩))
          go_ret
          exact ⟨by first | rfl | (simp; done) | (simp [*]; done), by repeat (first | exact Drawn0.refl _ | apply Drawn0.step)⟩
        · rw [if_neg c9] at H
          have c9b0 : decide (a1 < a0) = false := decide_eq_false c9
          clear c9
          obtain rfl := Option.some.inj H
          go_enter Try.func96, Try.ntmps96
          go_wp2_with (first | ((with_reducible refine gate_callee (f := 149) rfl ?_); refine gl (some 8) Try.func149 #[.int .i64 a0] ?_; (with_reducible refine (cmp_isNaN_int64.calls a0 false _ A3.out).mono ?_); rintro e w' ⟨rfl, ⟨nd, rfl⟩⟩; refine ⟨_, rfl, ?_⟩) | ((with_reducible refine gate_callee (f := 149) rfl ?_); refine gl (some 10) Try.func149 #[.int .i64 a1] ?_; (with_reducible refine (cmp_isNaN_int64.calls a1 false _ A4.out).mono ?_); rintro e w' ⟨rfl, ⟨nd, rfl⟩⟩; refine ⟨_, rfl, ?_⟩))
          go_ret
          exact ⟨by first | rfl | (simp; done) | (simp [*]; done), by repeat (first | exact Drawn0.refl _ | apply Drawn0.step)⟩

end Go.Proofs.Yteadienaeapaeaa.PT
