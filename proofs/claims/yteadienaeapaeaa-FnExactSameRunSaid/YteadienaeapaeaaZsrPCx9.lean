-- Made by a program of this session (myprint.py) out of the translation.
import Derived.Test.YteadienaeapaeaaZsrPCx0
import Derived.Test.YteadienaeapaeaaZsrPCx8
import Derived.Test.YteadienaeapaeaaZsrShort
namespace Go.Proofs.Yteadienaeapaeaa.PC
open Go.Proofs.Yteadienaeapaeaa.Short
open Go.Proofs.Yteadienaeapaeaa.Dyn
open Go.RowKit Go.Proofs.YteadienaeapaeaaW.PrintWords Go.Proofs.YteadienaeapaeaaW.PrintLast Go.Proofs.YteadienaeapaeaaW.PrintMore
attribute [local go_sem] max2_int min2_int max_two min_two max_three min_three max_four min_four   -- for this text's walks alone
set_option linter.unusedVariables false
set_option linter.unusedSimpArgs false

/-! ### impl_SameState: function 69 -/
def impl_SameState.f (k : Nat) (l0_0 : List (S130)) (l0_1 : List (S121)) (l0_2 : List Int) (l1_0 : List (S130)) (l1_1 : List (S121)) (l1_2 : List Int) : Option (Bool) := (impl_Point.f k l0_0 l1_0).bind fun t278 => (if t278 = true then ((slices_Equal_int64_int64.f k l0_2 l1_2).bind fun t279 => (if t279 = true then ((impl_Face_impl_SameState_1.f k l0_1 l1_1).bind fun t280 => (some t280)) else (some false))) else (some false))
theorem impl_SameState.mono : ∀ a0 a1 a2 a3 a4 a5 k, LeO (impl_SameState.f k a0 a1 a2 a3 a4 a5) (impl_SameState.f (k + 1) a0 a1 a2 a3 a4 a5) := by
  intro a0 a1 a2 a3 a4 a5 k
  unfold impl_SameState.f
  repeat' first
      | (with_reducible exact impl_Face_impl_SameState_1.mono _ _ _)
      | (with_reducible exact impl_Point.mono _ _ _)
      | (with_reducible exact slices_Equal_int64_int64.mono _ _ _)
      | (with_reducible exact LeO.refl _)
      | (with_reducible exact LeO.none _)
      | (with_reducible refine LeO.ite ?_ ?_)
      | (with_reducible refine LeO.bind ?_ (fun _ => ?_))
      | exact impl_Face_impl_SameState_1.mono _ _ _
      | exact impl_Point.mono _ _ _
      | exact slices_Equal_int64_int64.mono _ _ _
      | exact LeO.none _
      | refine LeO.ite ?_ ?_
      | refine LeO.bind ?_ (fun _ => ?_)
set_option maxHeartbeats 8000000 in
set_option maxRecDepth 100000 in
theorem impl_SameState.calls (k : Nat) (A0_0 : Option Addr) (c0_0 : Nat) (l0_0 : List (S130)) (A0_1 : Option Addr) (c0_1 : Nat) (l0_1 : List (S121)) (A0_2 : Option Addr) (c0_2 : Nat) (l0_2 : List Int) (A1_0 : Option Addr) (c1_0 : Nat) (l1_0 : List (S130)) (A1_1 : Option Addr) (c1_1 : Nat) (l1_1 : List (S121)) (A1_2 : Option Addr) (c1_2 : Nat) (l1_2 : List Int) (r : Bool) (w : World) (hr0_0 : Kd.C k130 w A0_0 l0_0.length l0_0) (hc0_0 : l0_0.length ≤ c0_0) (hr0_1 : Kd.C k121 w A0_1 l0_1.length l0_1) (hc0_1 : l0_1.length ≤ c0_1) (hr0_2 : Kd.C (Kd.int .i64) w A0_2 l0_2.length l0_2) (hc0_2 : l0_2.length ≤ c0_2) (hr1_0 : Kd.C k130 w A1_0 l1_0.length l1_0) (hc1_0 : l1_0.length ≤ c1_0) (hr1_1 : Kd.C k121 w A1_1 l1_1.length l1_1) (hc1_1 : l1_1.length ≤ c1_1) (hr1_2 : Kd.C (Kd.int .i64) w A1_2 l1_2.length l1_2) (hc1_2 : l1_2.length ≤ c1_2) (h : impl_SameState.f k l0_0 l0_1 l0_2 l1_0 l1_1 l1_2 = some r) :
    Calls Try.prog 69 #[.agg #[.slice A0_0 l0_0.length c0_0, .slice A0_1 l0_1.length c0_1, .slice A0_2 l0_2.length c0_2], .agg #[.slice A1_0 l1_0.length c1_0, .slice A1_1 l1_1.length c1_1, .slice A1_2 l1_2.length c1_2]] w fun e w' => e = .returned (.bool r) ∧ Below w.heap.size w w' := by
  have hu65 := Try.underlying65
  have HR0_0 := Aside0.mk hr0_0
  have HC0_0 := Aside0.mk hc0_0
  clear hr0_0 hc0_0
  have HR0_1 := Aside0.mk hr0_1
  have HC0_1 := Aside0.mk hc0_1
  clear hr0_1 hc0_1
  have HR0_2 := Aside0.mk hr0_2
  have HC0_2 := Aside0.mk hc0_2
  clear hr0_2 hc0_2
  have HR1_0 := Aside0.mk hr1_0
  have HC1_0 := Aside0.mk hc1_0
  clear hr1_0 hc1_0
  have HR1_1 := Aside0.mk hr1_1
  have HC1_1 := Aside0.mk hc1_1
  clear hr1_1 hc1_1
  have HR1_2 := Aside0.mk hr1_2
  have HC1_2 := Aside0.mk hc1_2
  clear hr1_2 hc1_2
  have HB := Aside0.mk (Below.refl w.heap.size w)
  have H : ((impl_Point.f k l0_0 l1_0).bind fun t278 => (if t278 = true then ((slices_Equal_int64_int64.f k l0_2 l1_2).bind fun t279 => (if t279 = true then ((impl_Face_impl_SameState_1.f k l0_1 l1_1).bind fun t280 => (some t280)) else (some false))) else (some false))) = some r := h
  clear h
  replace H := Option.bind_eq_some_iff.mp H
  obtain ⟨t278, A30, H⟩ := H
  replace H : (if t278 = true then ((slices_Equal_int64_int64.f k l0_2 l1_2).bind fun t279 => (if t279 = true then ((impl_Face_impl_SameState_1.f k l0_1 l1_1).bind fun t280 => (some t280)) else (some false))) else (some false)) = some r := H
  have A3 := Aside0.mk A30
  clear A30
  by_cases c4 : t278 = true
  · subst c4
    rw [if_pos rfl] at H
    replace H := Option.bind_eq_some_iff.mp H
    obtain ⟨t279, A50, H⟩ := H
    replace H : (if t279 = true then ((impl_Face_impl_SameState_1.f k l0_1 l1_1).bind fun t280 => (some t280)) else (some false)) = some r := H
    have A5 := Aside0.mk A50
    clear A50
    by_cases c6 : t279 = true
    · subst c6
      rw [if_pos rfl] at H
      replace H := Option.bind_eq_some_iff.mp H
      obtain ⟨t280, A70, H⟩ := H
      replace H : (some t280) = some r := H
      have A7 := Aside0.mk A70
      clear A70
      obtain rfl := Option.some.inj H
      go_enter Try.func69, Try.ntmps69
      go_wp2_with (first | ((with_reducible refine gate_dst (N := 2) rfl ?_); refine bx #[.slice A0_0 l0_0.length c0_0, .slice A0_1 l0_1.length c0_1, .slice A0_2 l0_2.length c0_2] 65 ?_; intro gb276 hg w8 hbox hb; have BK276 := Aside0.mk hbox; have GW276 := bg hg; have GE276 := bg hg; replace HB := bs hb; clear hb hbox hg) | ((with_reducible refine gate_dst (N := 3) rfl ?_); refine bx #[.slice A1_0 l1_0.length c1_0, .slice A1_1 l1_1.length c1_1, .slice A1_2 l1_2.length c1_2] 65 ?_; intro gb277 hg w9 hbox hb; have BK277 := Aside0.mk hbox; have GW277 := bg hg; have GE277 := bg hg; have NB276_277 := bl BK276 hg; have NB277_276 := bv BK276 hg; replace BK276 := bb BK276 hb; replace HB := bs hb; clear hb hbox hg; have hnb10 := NB276_277.out; have hnc10 := NB277_276.out; obtain ⟨z11_0, z11_1, z11_2, y11_0, y11_1, y11_2⟩ := bq3 BK276; obtain ⟨z12_0, z12_1, z12_2, y12_0, y12_1, y12_2⟩ := bq3 BK277) | ((with_reducible refine gate_callee (f := 136) rfl ?_); refine gl (some 9) Try.func136 #[.slice A0_0 l0_0.length c0_0, .slice A1_0 l1_0.length c1_0] ?_; (with_reducible refine (impl_Point.calls k _ _ l0_0 _ _ l1_0 true _ ?side1 ?side2 ?side3 ?side4 A3.out).mono ?_); (case side1 => exact sd HR0_0); (case side2 => exact HC0_0.out); (case side3 => exact sd HR1_0); (case side4 => exact HC1_0.out); rintro e w' ⟨rfl, ⟨nd, rfl⟩⟩; refine ⟨_, rfl, ?_⟩) | (go_at_call 137; (with_reducible refine (slices_Equal_int64_int64.calls k _ _ l0_2 _ _ l1_2 true _ ?side1 ?side2 ?side3 ?side4 A5.out).mono ?_); (case side1 => repeat (first | exact (Kd.C_below HR0_2.out bw) | (with_reducible refine Kd.C_alloc ?_ _) | (with_reducible refine Kd.C_drewN ?_ _) | (with_reducible refine Kd.C_drew ?_))); (case side2 => exact HC0_2.out); (case side3 => repeat (first | exact (Kd.C_below HR1_2.out bw) | (with_reducible refine Kd.C_alloc ?_ _) | (with_reducible refine Kd.C_drewN ?_ _) | (with_reducible refine Kd.C_drew ?_))); (case side4 => exact HC1_2.out); rintro e w' ⟨rfl, ⟨nd, rfl⟩⟩) | (go_at_call 138; (with_reducible refine (impl_Face_impl_SameState_1.calls k _ _ l0_1 _ _ l1_1  t280 _ ?side1 ?side2 ?side3 ?side4 A7.out).mono ?_); (case side1 => repeat (first | exact (Kd.C_below HR0_1.out bw) | (with_reducible refine Kd.C_alloc ?_ _) | (with_reducible refine Kd.C_drewN ?_ _) | (with_reducible refine Kd.C_drew ?_))); (case side2 => exact HC0_1.out); (case side3 => repeat (first | exact (Kd.C_below HR1_1.out bw) | (with_reducible refine Kd.C_alloc ?_ _) | (with_reducible refine Kd.C_drewN ?_ _) | (with_reducible refine Kd.C_drew ?_))); (case side4 => exact HC1_1.out); rintro e w13 ⟨rfl, hb⟩; replace BK276 := bb BK276 hb; replace BK277 := bb BK277 hb; replace HB := bs hb; (try clear hb); (try clear hb2); (try clear hk); (try clear hi)))
      go_ret
      exact ⟨er, bw⟩
    · replace c6 := Bool.eq_false_iff.mpr c6
      subst c6
      rw [if_neg nf] at H
      obtain rfl := Option.some.inj H
      go_enter Try.func69, Try.ntmps69
      go_wp2_with (first | ((with_reducible refine gate_dst (N := 2) rfl ?_); refine bx #[.slice A0_0 l0_0.length c0_0, .slice A0_1 l0_1.length c0_1, .slice A0_2 l0_2.length c0_2] 65 ?_; intro gb276 hg w14 hbox hb; have BK276 := Aside0.mk hbox; have GW276 := bg hg; have GE276 := bg hg; replace HB := bs hb; clear hb hbox hg) | ((with_reducible refine gate_dst (N := 3) rfl ?_); refine bx #[.slice A1_0 l1_0.length c1_0, .slice A1_1 l1_1.length c1_1, .slice A1_2 l1_2.length c1_2] 65 ?_; intro gb277 hg w15 hbox hb; have BK277 := Aside0.mk hbox; have GW277 := bg hg; have GE277 := bg hg; have NB276_277 := bl BK276 hg; have NB277_276 := bv BK276 hg; replace BK276 := bb BK276 hb; replace HB := bs hb; clear hb hbox hg; have hnb16 := NB276_277.out; have hnc16 := NB277_276.out; obtain ⟨z17_0, z17_1, z17_2, y17_0, y17_1, y17_2⟩ := bq3 BK276; obtain ⟨z18_0, z18_1, z18_2, y18_0, y18_1, y18_2⟩ := bq3 BK277) | ((with_reducible refine gate_callee (f := 136) rfl ?_); refine gl (some 9) Try.func136 #[.slice A0_0 l0_0.length c0_0, .slice A1_0 l1_0.length c1_0] ?_; (with_reducible refine (impl_Point.calls k _ _ l0_0 _ _ l1_0 true _ ?side1 ?side2 ?side3 ?side4 A3.out).mono ?_); (case side1 => exact sd HR0_0); (case side2 => exact HC0_0.out); (case side3 => exact sd HR1_0); (case side4 => exact HC1_0.out); rintro e w' ⟨rfl, ⟨nd, rfl⟩⟩; refine ⟨_, rfl, ?_⟩) | (go_at_call 137; (with_reducible refine (slices_Equal_int64_int64.calls k _ _ l0_2 _ _ l1_2 false _ ?side1 ?side2 ?side3 ?side4 A5.out).mono ?_); (case side1 => repeat (first | exact (Kd.C_below HR0_2.out bw) | (with_reducible refine Kd.C_alloc ?_ _) | (with_reducible refine Kd.C_drewN ?_ _) | (with_reducible refine Kd.C_drew ?_))); (case side2 => exact HC0_2.out); (case side3 => repeat (first | exact (Kd.C_below HR1_2.out bw) | (with_reducible refine Kd.C_alloc ?_ _) | (with_reducible refine Kd.C_drewN ?_ _) | (with_reducible refine Kd.C_drew ?_))); (case side4 => exact HC1_2.out); rintro e w' ⟨rfl, ⟨nd, rfl⟩⟩))
      go_ret
      exact ⟨er, bw⟩
  · replace c4 := Bool.eq_false_iff.mpr c4
    subst c4
    rw [if_neg nf] at H
    obtain rfl := Option.some.inj H
    go_enter Try.func69, Try.ntmps69
    go_wp2_with (first | ((with_reducible refine gate_dst (N := 2) rfl ?_); refine bx #[.slice A0_0 l0_0.length c0_0, .slice A0_1 l0_1.length c0_1, .slice A0_2 l0_2.length c0_2] 65 ?_; intro gb276 hg w19 hbox hb; have BK276 := Aside0.mk hbox; have GW276 := bg hg; have GE276 := bg hg; replace HB := bs hb; clear hb hbox hg) | ((with_reducible refine gate_dst (N := 3) rfl ?_); refine bx #[.slice A1_0 l1_0.length c1_0, .slice A1_1 l1_1.length c1_1, .slice A1_2 l1_2.length c1_2] 65 ?_; intro gb277 hg w20 hbox hb; have BK277 := Aside0.mk hbox; have GW277 := bg hg; have GE277 := bg hg; have NB276_277 := bl BK276 hg; have NB277_276 := bv BK276 hg; replace BK276 := bb BK276 hb; replace HB := bs hb; clear hb hbox hg; have hnb21 := NB276_277.out; have hnc21 := NB277_276.out; obtain ⟨z22_0, z22_1, z22_2, y22_0, y22_1, y22_2⟩ := bq3 BK276; obtain ⟨z23_0, z23_1, z23_2, y23_0, y23_1, y23_2⟩ := bq3 BK277) | ((with_reducible refine gate_callee (f := 136) rfl ?_); refine gl (some 9) Try.func136 #[.slice A0_0 l0_0.length c0_0, .slice A1_0 l1_0.length c1_0] ?_; (with_reducible refine (impl_Point.calls k _ _ l0_0 _ _ l1_0 false _ ?side1 ?side2 ?side3 ?side4 A3.out).mono ?_); (case side1 => exact sd HR0_0); (case side2 => exact HC0_0.out); (case side3 => exact sd HR1_0); (case side4 => exact HC1_0.out); rintro e w' ⟨rfl, ⟨nd, rfl⟩⟩; refine ⟨_, rfl, ?_⟩))
    go_ret
    exact ⟨er, bw⟩

/-! ### impl_State_impl_SameState: function 68 -/
def impl_State_impl_SameState.l0 : Nat → List (S65) → List (S65) → Int → Int → Option (Bool)
  | 0, _, _, _, _ => none
  | k + 1, x1, x15, x16, x17 => if x17 < x16 then (if 0 ≤ x17 then (if x17 < (x15.length : Int) then (if x17 < (x1.length : Int) then ((impl_SameState.f k ((rd_T65 x15 x17).f0) ((rd_T65 x15 x17).f1) ((rd_T65 x15 x17).f2) ((rd_T65 x1 x17).f0) ((rd_T65 x1 x17).f1) ((rd_T65 x1 x17).f2)).bind fun t285 => (if t285 = true then (impl_State_impl_SameState.l0 k x1 x15 x16 (wrap64 (x17 + 1))) else (some false))) else (none)) else (none)) else (none)) else (some true)
def impl_State_impl_SameState.f (k : Nat) (l0 : List (S65)) (l1 : List (S65))  : Option (Bool) := if (l0.length : Int) = (l1.length : Int) then (impl_State_impl_SameState.l0 k l1 l0 (l0.length : Int) 0) else (some false)
theorem impl_State_impl_SameState.mono_l : ∀ k, (∀ y0 y1 y2 y3, LeO (impl_State_impl_SameState.l0 k y0 y1 y2 y3) (impl_State_impl_SameState.l0 (k + 1) y0 y1 y2 y3))
  | 0 => fun _ _ _ _ r h => by simp [impl_State_impl_SameState.l0] at h
  | k + 1 => by
    have ih0 := impl_State_impl_SameState.mono_l k
    · intro y0 y1 y2 y3
      unfold impl_State_impl_SameState.l0
      repeat' first
      | (with_reducible exact ih0 _ _ _ _)
      | (with_reducible exact impl_SameState.mono _ _ _ _ _ _ _)
      | (with_reducible exact LeO.refl _)
      | (with_reducible exact LeO.none _)
      | (with_reducible refine LeO.ite ?_ ?_)
      | (with_reducible refine LeO.bind ?_ (fun _ => ?_))
      | exact ih0 _ _ _ _
      | exact impl_SameState.mono _ _ _ _ _ _ _
      | exact LeO.none _
      | refine LeO.ite ?_ ?_
      | refine LeO.bind ?_ (fun _ => ?_)
theorem impl_State_impl_SameState.mono : ∀ a0 a1 k, LeO (impl_State_impl_SameState.f k a0 a1) (impl_State_impl_SameState.f (k + 1) a0 a1) := by
  intro a0 a1 k
  have ih0 := impl_State_impl_SameState.mono_l k
  unfold impl_State_impl_SameState.f
  repeat' first
      | (with_reducible exact ih0 _ _ _ _)
      | (with_reducible exact impl_SameState.mono _ _ _ _ _ _ _)
      | (with_reducible exact LeO.refl _)
      | (with_reducible exact LeO.none _)
      | (with_reducible refine LeO.ite ?_ ?_)
      | (with_reducible refine LeO.bind ?_ (fun _ => ?_))
      | exact ih0 _ _ _ _
      | exact impl_SameState.mono _ _ _ _ _ _ _
      | exact LeO.none _
      | refine LeO.ite ?_ ?_
      | refine LeO.bind ?_ (fun _ => ?_)
set_option maxHeartbeats 8000000 in
set_option maxRecDepth 100000 in
theorem impl_State_impl_SameState.calls (k : Nat) (A0 : Option Addr) (c0 : Nat) (l0 : List (S65)) (A1 : Option Addr) (c1 : Nat) (l1 : List (S65))  (r : Bool) (w : World) (hr0 : Kd.C k65 w A0 l0.length l0) (hc0 : l0.length ≤ c0) (hr1 : Kd.C k65 w A1 l1.length l1) (hc1 : l1.length ≤ c1) (h : impl_State_impl_SameState.f k l0 l1 = some r) :
    Calls Try.prog 68 #[.slice A0 l0.length c0, .slice A1 l1.length c1, .func (.func 69) #[] #[]] w fun e w' => e = .returned (.bool r) ∧ Below w.heap.size w w' := by
  have hu65 := Try.underlying65
  have HR0 := Aside0.mk hr0
  have HC0 := Aside0.mk hc0
  clear hr0 hc0
  have HR1 := Aside0.mk hr1
  have HC1 := Aside0.mk hc1
  clear hr1 hc1
  have HB := Aside0.mk (Below.refl w.heap.size w)
  have H : (if (l0.length : Int) = (l1.length : Int) then (impl_State_impl_SameState.l0 k l1 l0 (l0.length : Int) 0) else (some false)) = some r := h
  clear h
  by_cases c4 : (l0.length : Int) = (l1.length : Int)
  · rw [if_pos c4] at H
    have c4b0 : ((l0.length : Int) == (l1.length : Int)) = true := beq_iff_eq.mpr c4
    have c4b1 : ((l0.length : Int) != (l1.length : Int)) = false := bne_eq_false_iff_eq.mpr c4
    have c4b2 : (l0.length == l1.length) = true := by first | simpa using c4 | (simp at c4 ⊢; omega)
    clear c4
    have H' := Aside0.mk H
    clear H
    go_enter Try.func68, Try.ntmps68
    go_wp2
    go_loopg [17] k (fun kq v17 w' => ∃ (x17_1 : Int), v17 = .int .i64 x17_1 ∧ Aside0 (impl_State_impl_SameState.l0 kq l1 l0 (l0.length : Int) x17_1 = some r) ∧ Aside0 (kq ≤ k) ∧ Aside0 (Below w.heap.size w w'))
    case atStart => exact ⟨(0), (by first | rfl | (simp; done) | (simp [*]; done)), H', ⟨Nat.le_refl _⟩, ⟨bw⟩⟩
    case round =>
      clear H'
      try clear c1
      try clear p2
      try clear c4
      try clear c4b0
      try clear c4b1
      try clear c4b2
      obtain ⟨x17_1, rfl, HA, HK1, HB⟩ := hrel
      cases gk with
      | zero => exact absurd HA.out (by simp [impl_State_impl_SameState.l0])
      | succ k1 =>
        have H := HA.out
        clear HA
        simp only [impl_State_impl_SameState.l0] at H
        by_cases c5 : x17_1 < (l0.length : Int)
        · rw [if_pos c5] at H
          have c5b0 : decide (x17_1 < (l0.length : Int)) = true := decide_eq_true c5
          clear c5
          by_cases c6 : 0 ≤ x17_1
          · rw [if_pos c6] at H
            have c6b0 : decide (0 ≤ x17_1) = true := decide_eq_true c6
            clear c6
            by_cases c7 : x17_1 < (l0.length : Int)
            · rw [if_pos c7] at H
              have c7b0 : decide (x17_1 < (l0.length : Int)) = true := decide_eq_true c7
              clear c7
              by_cases c8 : x17_1 < (l1.length : Int)
              · rw [if_pos c8] at H
                have c8b0 : decide (x17_1 < (l1.length : Int)) = true := decide_eq_true c8
                clear c8
                replace H := Option.bind_eq_some_iff.mp H
                obtain ⟨t285, A90, H⟩ := H
                replace H : (if t285 = true then (impl_State_impl_SameState.l0 k1 l1 l0 (l0.length : Int) (wrap64 (x17_1 + 1))) else (some false)) = some r := H
                have A9 := Aside0.mk A90
                clear A90
                by_cases c10 : t285 = true
                · subst c10
                  rw [if_pos rfl] at H
                  have H' := Aside0.mk H
                  clear H
                  have p281 : 0 ≤ (x17_1 : Int) := od
                  have q281 : x17_1 < (l0.length : Int) := od
                  obtain ⟨ad281, A281_0, c281_0, A281_1, c281_1, A281_2, c281_2, e281, hx281_0, hx281_1, hx281_2, hl281_0, hi281_0, hl281_1, hi281_1, hl281_2, hi281_2⟩ := at_T65 HR0.out x17_1 p281 q281
                  cases e281
                  replace hx281_0 := bc hx281_0
                  replace hx281_1 := bc hx281_1
                  replace hx281_2 := bc hx281_2
                  have HR281_0 := Aside0.mk hi281_0
                  have HC281_0 := Aside0.mk hl281_0
                  clear hi281_0 hl281_0
                  have HR281_1 := Aside0.mk hi281_1
                  have HC281_1 := Aside0.mk hl281_1
                  clear hi281_1 hl281_1
                  have HR281_2 := Aside0.mk hi281_2
                  have HC281_2 := Aside0.mk hl281_2
                  clear hi281_2 hl281_2
                  replace p281 := eq_true p281
                  replace q281 := eq_true q281
                  go_wp2_with (first | ((with_reducible refine gate_dst (N := 8) rfl ?_); refine bx #[.slice none 0 0, .slice none 0 0, .slice none 0 0] 65 ?_; intro gb282 hg w11 hbox hb; have BK282 := Aside0.mk hbox; have GW282 := bg hg; have GE282 := bg hg; replace HB := bs hb; clear hb hbox hg; obtain ⟨z12_0, z12_1, z12_2, y12_0, y12_1, y12_2⟩ := bq3 BK282; have p283 : 0 ≤ (x17_1 : Int) := od; have q283 : x17_1 < (l1.length : Int) := od; obtain ⟨ad283, A283_0, c283_0, A283_1, c283_1, A283_2, c283_2, e283, hx283_0, hx283_1, hx283_2, hl283_0, hi283_0, hl283_1, hi283_1, hl283_2, hi283_2⟩ := at_T65 HR1.out x17_1 p283 q283; cases e283; have hn283_0 : ad283.block ≠ gb282 := Nat.ne_of_lt (Nat.lt_of_lt_of_le (by have := World.block_lt_of_cell? _ _ hx283_0; first | rwa [add_block] at this | exact this) GW282.out); have hn283_1 : ad283.block ≠ gb282 := Nat.ne_of_lt (Nat.lt_of_lt_of_le (by have := World.block_lt_of_cell? _ _ hx283_0; first | rwa [add_block] at this | exact this) GW282.out); have hn283_2 : ad283.block ≠ gb282 := Nat.ne_of_lt (Nat.lt_of_lt_of_le (by have := World.block_lt_of_cell? _ _ hx283_0; first | rwa [add_block] at this | exact this) GW282.out); replace hx283_0 := bc hx283_0; replace hx283_1 := bc hx283_1; replace hx283_2 := bc hx283_2; have HR283_0 := Aside0.mk hi283_0; have HC283_0 := Aside0.mk hl283_0; clear hi283_0 hl283_0; have HR283_1 := Aside0.mk hi283_1; have HC283_1 := Aside0.mk hl283_1; clear hi283_1 hl283_1; have HR283_2 := Aside0.mk hi283_2; have HC283_2 := Aside0.mk hl283_2; clear hi283_2 hl283_2; replace hx283_0 := cf ⟨gb282, 0, none⟩ (.slice A281_0 ((rd_T65 l0 x17_1).f0).length c281_0) hn283_0 hx283_0; replace hx283_1 := cf ⟨gb282, 0, none⟩ (.slice A281_0 ((rd_T65 l0 x17_1).f0).length c281_0) hn283_0 hx283_1; replace hx283_2 := cf ⟨gb282, 0, none⟩ (.slice A281_0 ((rd_T65 l0 x17_1).f0).length c281_0) hn283_0 hx283_2; replace hx283_0 := cf ⟨gb282, 1, none⟩ (.slice A281_1 ((rd_T65 l0 x17_1).f1).length c281_1) hn283_1 hx283_0; replace hx283_1 := cf ⟨gb282, 1, none⟩ (.slice A281_1 ((rd_T65 l0 x17_1).f1).length c281_1) hn283_1 hx283_1; replace hx283_2 := cf ⟨gb282, 1, none⟩ (.slice A281_1 ((rd_T65 l0 x17_1).f1).length c281_1) hn283_1 hx283_2; replace hx283_0 := cf ⟨gb282, 2, none⟩ (.slice A281_2 ((rd_T65 l0 x17_1).f2).length c281_2) hn283_2 hx283_0; replace hx283_1 := cf ⟨gb282, 2, none⟩ (.slice A281_2 ((rd_T65 l0 x17_1).f2).length c281_2) hn283_2 hx283_1; replace hx283_2 := cf ⟨gb282, 2, none⟩ (.slice A281_2 ((rd_T65 l0 x17_1).f2).length c281_2) hn283_2 hx283_2; clear hn283_0; clear hn283_1; clear hn283_2; replace p283 := eq_true p283; replace q283 := eq_true q283) | ((with_reducible refine gate_dst (N := 9) rfl ?_); refine bx #[.slice none 0 0, .slice none 0 0, .slice none 0 0] 65 ?_; intro gb284 hg w13 hbox hb; have BK284 := Aside0.mk hbox; have GW284 := bg hg; have GE284 := bg hg; have NB282_284 := Aside0.mk ((by rw [hg]; exact Nat.ne_of_lt (blk_lt (g := gb282) (o := .cells #[.slice A281_0 ((rd_T65 l0 x17_1).f0).length c281_0, .slice A281_1 ((rd_T65 l0 x17_1).f1).length c281_1, .slice A281_2 ((rd_T65 l0 x17_1).f2).length c281_2] 65 (0, 0)) (by refine bk (h := ?_); refine blk_put (cs := #[.slice A281_0 ((rd_T65 l0 x17_1).f0).length c281_0, .slice A281_1 ((rd_T65 l0 x17_1).f1).length c281_1, .slice none 0 0]) ?_ 2 _ rfl; refine bk (h := ?_); refine blk_put (cs := #[.slice A281_0 ((rd_T65 l0 x17_1).f0).length c281_0, .slice none 0 0, .slice none 0 0]) ?_ 1 _ rfl; refine bk (h := ?_); refine blk_put (cs := #[.slice none 0 0, .slice none 0 0, .slice none 0 0]) ?_ 0 _ rfl; refine bk (h := ?_); exact BK282.out)) : gb282 ≠ gb284)); have NB284_282 := Aside0.mk ((by rw [hg]; exact Nat.ne_of_gt (blk_lt (g := gb282) (o := .cells #[.slice A281_0 ((rd_T65 l0 x17_1).f0).length c281_0, .slice A281_1 ((rd_T65 l0 x17_1).f1).length c281_1, .slice A281_2 ((rd_T65 l0 x17_1).f2).length c281_2] 65 (0, 0)) (by refine bk (h := ?_); refine blk_put (cs := #[.slice A281_0 ((rd_T65 l0 x17_1).f0).length c281_0, .slice A281_1 ((rd_T65 l0 x17_1).f1).length c281_1, .slice none 0 0]) ?_ 2 _ rfl; refine bk (h := ?_); refine blk_put (cs := #[.slice A281_0 ((rd_T65 l0 x17_1).f0).length c281_0, .slice none 0 0, .slice none 0 0]) ?_ 1 _ rfl; refine bk (h := ?_); refine blk_put (cs := #[.slice none 0 0, .slice none 0 0, .slice none 0 0]) ?_ 0 _ rfl; refine bk (h := ?_); exact BK282.out)) : gb284 ≠ gb282)); replace BK282 := Aside0.mk (blk_below (g := gb282) (o := .cells #[.slice A281_0 ((rd_T65 l0 x17_1).f0).length c281_0, .slice A281_1 ((rd_T65 l0 x17_1).f1).length c281_1, .slice A281_2 ((rd_T65 l0 x17_1).f2).length c281_2] 65 (0, 0)) (by refine bk (h := ?_); refine blk_put (cs := #[.slice A281_0 ((rd_T65 l0 x17_1).f0).length c281_0, .slice A281_1 ((rd_T65 l0 x17_1).f1).length c281_1, .slice none 0 0]) ?_ 2 _ rfl; refine bk (h := ?_); refine blk_put (cs := #[.slice A281_0 ((rd_T65 l0 x17_1).f0).length c281_0, .slice none 0 0, .slice none 0 0]) ?_ 1 _ rfl; refine bk (h := ?_); refine blk_put (cs := #[.slice none 0 0, .slice none 0 0, .slice none 0 0]) ?_ 0 _ rfl; refine bk (h := ?_); exact BK282.out) hb); replace HB := bs hb; clear hb hbox hg; have hnb14 := NB284_282.out; have hnc14 := NB282_284.out; obtain ⟨z15_0, z15_1, z15_2, y15_0, y15_1, y15_2⟩ := bq3 BK284; obtain ⟨z16_0, z16_1, z16_2, y16_0, y16_1, y16_2⟩ := bq3 BK282) | ((refine gate_fv (f := 69) rfl (by rfl) ?_); refine goesLV_ (some 29) rfl rfl Try.func69 (by kernel_rfl) rfl #[.agg #[.slice A281_0 ((rd_T65 l0 x17_1).f0).length c281_0, .slice A281_1 ((rd_T65 l0 x17_1).f1).length c281_1, .slice A281_2 ((rd_T65 l0 x17_1).f2).length c281_2], .agg #[.slice A283_0 ((rd_T65 l1 x17_1).f0).length c283_0, .slice A283_1 ((rd_T65 l1 x17_1).f1).length c283_1, .slice A283_2 ((rd_T65 l1 x17_1).f2).length c283_2]] rfl (by rfl) (by (try simp only [List.map_toArray, List.map_cons, List.map_nil]); first | done | rfl | (simp only [List.length_drop, List.length_take]; rfl)) ?_; (with_reducible refine (impl_SameState.calls k1 _ _ ((rd_T65 l0 x17_1).f0) _ _ ((rd_T65 l0 x17_1).f1) _ _ ((rd_T65 l0 x17_1).f2) _ _ ((rd_T65 l1 x17_1).f0) _ _ ((rd_T65 l1 x17_1).f1) _ _ ((rd_T65 l1 x17_1).f2) true _ ?side1 ?side2 ?side3 ?side4 ?side5 ?side6 ?side7 ?side8 ?side9 ?side10 ?side11 ?side12 A9.out).mono ?_); (case side1 => exact Kd.C_below HR281_0.out bw); (case side2 => exact HC281_0.out); (case side3 => exact Kd.C_below HR281_1.out bw); (case side4 => exact HC281_1.out); (case side5 => exact Kd.C_below HR281_2.out bw); (case side6 => exact HC281_2.out); (case side7 => exact Kd.C_below HR283_0.out bw); (case side8 => exact HC283_0.out); (case side9 => exact Kd.C_below HR283_1.out bw); (case side10 => exact HC283_1.out); (case side11 => exact Kd.C_below HR283_2.out bw); (case side12 => exact HC283_2.out); rintro e w17 ⟨rfl, hb⟩; refine ⟨_, rfl, ?_⟩; replace BK282 := Aside0.mk (blk_below (g := gb282) (o := .cells #[.slice A281_0 ((rd_T65 l0 x17_1).f0).length c281_0, .slice A281_1 ((rd_T65 l0 x17_1).f1).length c281_1, .slice A281_2 ((rd_T65 l0 x17_1).f2).length c281_2] 65 (0, 0)) (by refine bk (h := ?_); refine blk_far ?_ NB282_284.out _; refine bk (h := ?_); refine blk_far ?_ NB282_284.out _; refine bk (h := ?_); refine blk_far ?_ NB282_284.out _; refine bk (h := ?_); exact BK282.out) hb); replace BK284 := Aside0.mk (blk_below (g := gb284) (o := .cells #[.slice A283_0 ((rd_T65 l1 x17_1).f0).length c283_0, .slice A283_1 ((rd_T65 l1 x17_1).f1).length c283_1, .slice A283_2 ((rd_T65 l1 x17_1).f2).length c283_2] 65 (0, 0)) (by refine bk (h := ?_); refine blk_put (cs := #[.slice A283_0 ((rd_T65 l1 x17_1).f0).length c283_0, .slice A283_1 ((rd_T65 l1 x17_1).f1).length c283_1, .slice none 0 0]) ?_ 2 _ rfl; refine bk (h := ?_); refine blk_put (cs := #[.slice A283_0 ((rd_T65 l1 x17_1).f0).length c283_0, .slice none 0 0, .slice none 0 0]) ?_ 1 _ rfl; refine bk (h := ?_); refine blk_put (cs := #[.slice none 0 0, .slice none 0 0, .slice none 0 0]) ?_ 0 _ rfl; refine bk (h := ?_); exact BK284.out) hb); replace HB := bs hb; (try clear hb); (try clear hb2); (try clear hk); (try clear hi)))
                  go_roundg k1
                  case measure => have := HK1.out; omega
                  case rel => exact ⟨(wrap64 (x17_1 + 1)), (by first | rfl | (simp; done) | (simp [*]; done)), H', ⟨by have := HK1.out; omega⟩, ⟨bw⟩⟩
                · replace c10 := Bool.eq_false_iff.mpr c10
                  subst c10
                  rw [if_neg nf] at H
                  obtain rfl := Option.some.inj H
                  have p281 : 0 ≤ (x17_1 : Int) := od
                  have q281 : x17_1 < (l0.length : Int) := od
                  obtain ⟨ad281, A281_0, c281_0, A281_1, c281_1, A281_2, c281_2, e281, hx281_0, hx281_1, hx281_2, hl281_0, hi281_0, hl281_1, hi281_1, hl281_2, hi281_2⟩ := at_T65 HR0.out x17_1 p281 q281
                  cases e281
                  replace hx281_0 := bc hx281_0
                  replace hx281_1 := bc hx281_1
                  replace hx281_2 := bc hx281_2
                  have HR281_0 := Aside0.mk hi281_0
                  have HC281_0 := Aside0.mk hl281_0
                  clear hi281_0 hl281_0
                  have HR281_1 := Aside0.mk hi281_1
                  have HC281_1 := Aside0.mk hl281_1
                  clear hi281_1 hl281_1
                  have HR281_2 := Aside0.mk hi281_2
                  have HC281_2 := Aside0.mk hl281_2
                  clear hi281_2 hl281_2
                  replace p281 := eq_true p281
                  replace q281 := eq_true q281
                  go_wp2_with (first | ((with_reducible refine gate_dst (N := 8) rfl ?_); refine bx #[.slice none 0 0, .slice none 0 0, .slice none 0 0] 65 ?_; intro gb282 hg w18 hbox hb; have BK282 := Aside0.mk hbox; have GW282 := bg hg; have GE282 := bg hg; replace HB := bs hb; clear hb hbox hg; obtain ⟨z19_0, z19_1, z19_2, y19_0, y19_1, y19_2⟩ := bq3 BK282; have p283 : 0 ≤ (x17_1 : Int) := od; have q283 : x17_1 < (l1.length : Int) := od; obtain ⟨ad283, A283_0, c283_0, A283_1, c283_1, A283_2, c283_2, e283, hx283_0, hx283_1, hx283_2, hl283_0, hi283_0, hl283_1, hi283_1, hl283_2, hi283_2⟩ := at_T65 HR1.out x17_1 p283 q283; cases e283; have hn283_0 : ad283.block ≠ gb282 := Nat.ne_of_lt (Nat.lt_of_lt_of_le (by have := World.block_lt_of_cell? _ _ hx283_0; first | rwa [add_block] at this | exact this) GW282.out); have hn283_1 : ad283.block ≠ gb282 := Nat.ne_of_lt (Nat.lt_of_lt_of_le (by have := World.block_lt_of_cell? _ _ hx283_0; first | rwa [add_block] at this | exact this) GW282.out); have hn283_2 : ad283.block ≠ gb282 := Nat.ne_of_lt (Nat.lt_of_lt_of_le (by have := World.block_lt_of_cell? _ _ hx283_0; first | rwa [add_block] at this | exact this) GW282.out); replace hx283_0 := bc hx283_0; replace hx283_1 := bc hx283_1; replace hx283_2 := bc hx283_2; have HR283_0 := Aside0.mk hi283_0; have HC283_0 := Aside0.mk hl283_0; clear hi283_0 hl283_0; have HR283_1 := Aside0.mk hi283_1; have HC283_1 := Aside0.mk hl283_1; clear hi283_1 hl283_1; have HR283_2 := Aside0.mk hi283_2; have HC283_2 := Aside0.mk hl283_2; clear hi283_2 hl283_2; replace hx283_0 := cf ⟨gb282, 0, none⟩ (.slice A281_0 ((rd_T65 l0 x17_1).f0).length c281_0) hn283_0 hx283_0; replace hx283_1 := cf ⟨gb282, 0, none⟩ (.slice A281_0 ((rd_T65 l0 x17_1).f0).length c281_0) hn283_0 hx283_1; replace hx283_2 := cf ⟨gb282, 0, none⟩ (.slice A281_0 ((rd_T65 l0 x17_1).f0).length c281_0) hn283_0 hx283_2; replace hx283_0 := cf ⟨gb282, 1, none⟩ (.slice A281_1 ((rd_T65 l0 x17_1).f1).length c281_1) hn283_1 hx283_0; replace hx283_1 := cf ⟨gb282, 1, none⟩ (.slice A281_1 ((rd_T65 l0 x17_1).f1).length c281_1) hn283_1 hx283_1; replace hx283_2 := cf ⟨gb282, 1, none⟩ (.slice A281_1 ((rd_T65 l0 x17_1).f1).length c281_1) hn283_1 hx283_2; replace hx283_0 := cf ⟨gb282, 2, none⟩ (.slice A281_2 ((rd_T65 l0 x17_1).f2).length c281_2) hn283_2 hx283_0; replace hx283_1 := cf ⟨gb282, 2, none⟩ (.slice A281_2 ((rd_T65 l0 x17_1).f2).length c281_2) hn283_2 hx283_1; replace hx283_2 := cf ⟨gb282, 2, none⟩ (.slice A281_2 ((rd_T65 l0 x17_1).f2).length c281_2) hn283_2 hx283_2; clear hn283_0; clear hn283_1; clear hn283_2; replace p283 := eq_true p283; replace q283 := eq_true q283) | ((with_reducible refine gate_dst (N := 9) rfl ?_); refine bx #[.slice none 0 0, .slice none 0 0, .slice none 0 0] 65 ?_; intro gb284 hg w20 hbox hb; have BK284 := Aside0.mk hbox; have GW284 := bg hg; have GE284 := bg hg; have NB282_284 := Aside0.mk ((by rw [hg]; exact Nat.ne_of_lt (blk_lt (g := gb282) (o := .cells #[.slice A281_0 ((rd_T65 l0 x17_1).f0).length c281_0, .slice A281_1 ((rd_T65 l0 x17_1).f1).length c281_1, .slice A281_2 ((rd_T65 l0 x17_1).f2).length c281_2] 65 (0, 0)) (by refine bk (h := ?_); refine blk_put (cs := #[.slice A281_0 ((rd_T65 l0 x17_1).f0).length c281_0, .slice A281_1 ((rd_T65 l0 x17_1).f1).length c281_1, .slice none 0 0]) ?_ 2 _ rfl; refine bk (h := ?_); refine blk_put (cs := #[.slice A281_0 ((rd_T65 l0 x17_1).f0).length c281_0, .slice none 0 0, .slice none 0 0]) ?_ 1 _ rfl; refine bk (h := ?_); refine blk_put (cs := #[.slice none 0 0, .slice none 0 0, .slice none 0 0]) ?_ 0 _ rfl; refine bk (h := ?_); exact BK282.out)) : gb282 ≠ gb284)); have NB284_282 := Aside0.mk ((by rw [hg]; exact Nat.ne_of_gt (blk_lt (g := gb282) (o := .cells #[.slice A281_0 ((rd_T65 l0 x17_1).f0).length c281_0, .slice A281_1 ((rd_T65 l0 x17_1).f1).length c281_1, .slice A281_2 ((rd_T65 l0 x17_1).f2).length c281_2] 65 (0, 0)) (by refine bk (h := ?_); refine blk_put (cs := #[.slice A281_0 ((rd_T65 l0 x17_1).f0).length c281_0, .slice A281_1 ((rd_T65 l0 x17_1).f1).length c281_1, .slice none 0 0]) ?_ 2 _ rfl; refine bk (h := ?_); refine blk_put (cs := #[.slice A281_0 ((rd_T65 l0 x17_1).f0).length c281_0, .slice none 0 0, .slice none 0 0]) ?_ 1 _ rfl; refine bk (h := ?_); refine blk_put (cs := #[.slice none 0 0, .slice none 0 0, .slice none 0 0]) ?_ 0 _ rfl; refine bk (h := ?_); exact BK282.out)) : gb284 ≠ gb282)); replace BK282 := Aside0.mk (blk_below (g := gb282) (o := .cells #[.slice A281_0 ((rd_T65 l0 x17_1).f0).length c281_0, .slice A281_1 ((rd_T65 l0 x17_1).f1).length c281_1, .slice A281_2 ((rd_T65 l0 x17_1).f2).length c281_2] 65 (0, 0)) (by refine bk (h := ?_); refine blk_put (cs := #[.slice A281_0 ((rd_T65 l0 x17_1).f0).length c281_0, .slice A281_1 ((rd_T65 l0 x17_1).f1).length c281_1, .slice none 0 0]) ?_ 2 _ rfl; refine bk (h := ?_); refine blk_put (cs := #[.slice A281_0 ((rd_T65 l0 x17_1).f0).length c281_0, .slice none 0 0, .slice none 0 0]) ?_ 1 _ rfl; refine bk (h := ?_); refine blk_put (cs := #[.slice none 0 0, .slice none 0 0, .slice none 0 0]) ?_ 0 _ rfl; refine bk (h := ?_); exact BK282.out) hb); replace HB := bs hb; clear hb hbox hg; have hnb21 := NB284_282.out; have hnc21 := NB282_284.out; obtain ⟨z22_0, z22_1, z22_2, y22_0, y22_1, y22_2⟩ := bq3 BK284; obtain ⟨z23_0, z23_1, z23_2, y23_0, y23_1, y23_2⟩ := bq3 BK282) | ((refine gate_fv (f := 69) rfl (by rfl) ?_); refine goesLV_ (some 29) rfl rfl Try.func69 (by kernel_rfl) rfl #[.agg #[.slice A281_0 ((rd_T65 l0 x17_1).f0).length c281_0, .slice A281_1 ((rd_T65 l0 x17_1).f1).length c281_1, .slice A281_2 ((rd_T65 l0 x17_1).f2).length c281_2], .agg #[.slice A283_0 ((rd_T65 l1 x17_1).f0).length c283_0, .slice A283_1 ((rd_T65 l1 x17_1).f1).length c283_1, .slice A283_2 ((rd_T65 l1 x17_1).f2).length c283_2]] rfl (by rfl) (by (try simp only [List.map_toArray, List.map_cons, List.map_nil]); first | done | rfl | (simp only [List.length_drop, List.length_take]; rfl)) ?_; (with_reducible refine (impl_SameState.calls k1 _ _ ((rd_T65 l0 x17_1).f0) _ _ ((rd_T65 l0 x17_1).f1) _ _ ((rd_T65 l0 x17_1).f2) _ _ ((rd_T65 l1 x17_1).f0) _ _ ((rd_T65 l1 x17_1).f1) _ _ ((rd_T65 l1 x17_1).f2) false _ ?side1 ?side2 ?side3 ?side4 ?side5 ?side6 ?side7 ?side8 ?side9 ?side10 ?side11 ?side12 A9.out).mono ?_); (case side1 => exact Kd.C_below HR281_0.out bw); (case side2 => exact HC281_0.out); (case side3 => exact Kd.C_below HR281_1.out bw); (case side4 => exact HC281_1.out); (case side5 => exact Kd.C_below HR281_2.out bw); (case side6 => exact HC281_2.out); (case side7 => exact Kd.C_below HR283_0.out bw); (case side8 => exact HC283_0.out); (case side9 => exact Kd.C_below HR283_1.out bw); (case side10 => exact HC283_1.out); (case side11 => exact Kd.C_below HR283_2.out bw); (case side12 => exact HC283_2.out); rintro e w24 ⟨rfl, hb⟩; refine ⟨_, rfl, ?_⟩; replace BK282 := Aside0.mk (blk_below (g := gb282) (o := .cells #[.slice A281_0 ((rd_T65 l0 x17_1).f0).length c281_0, .slice A281_1 ((rd_T65 l0 x17_1).f1).length c281_1, .slice A281_2 ((rd_T65 l0 x17_1).f2).length c281_2] 65 (0, 0)) (by refine bk (h := ?_); refine blk_far ?_ NB282_284.out _; refine bk (h := ?_); refine blk_far ?_ NB282_284.out _; refine bk (h := ?_); refine blk_far ?_ NB282_284.out _; refine bk (h := ?_); exact BK282.out) hb); replace BK284 := Aside0.mk (blk_below (g := gb284) (o := .cells #[.slice A283_0 ((rd_T65 l1 x17_1).f0).length c283_0, .slice A283_1 ((rd_T65 l1 x17_1).f1).length c283_1, .slice A283_2 ((rd_T65 l1 x17_1).f2).length c283_2] 65 (0, 0)) (by refine bk (h := ?_); refine blk_put (cs := #[.slice A283_0 ((rd_T65 l1 x17_1).f0).length c283_0, .slice A283_1 ((rd_T65 l1 x17_1).f1).length c283_1, .slice none 0 0]) ?_ 2 _ rfl; refine bk (h := ?_); refine blk_put (cs := #[.slice A283_0 ((rd_T65 l1 x17_1).f0).length c283_0, .slice none 0 0, .slice none 0 0]) ?_ 1 _ rfl; refine bk (h := ?_); refine blk_put (cs := #[.slice none 0 0, .slice none 0 0, .slice none 0 0]) ?_ 0 _ rfl; refine bk (h := ?_); exact BK284.out) hb); replace HB := bs hb; (try clear hb); (try clear hb2); (try clear hk); (try clear hi)))
                  go_ret
                  exact ⟨er, bw⟩
              · rw [if_neg c8] at H
                exact absurd H (by simp)
            · rw [if_neg c7] at H
              exact absurd H (by simp)
          · rw [if_neg c6] at H
            exact absurd H (by simp)
        · rw [if_neg c5] at H
          have c5b0 : decide (x17_1 < (l0.length : Int)) = false := decide_eq_false c5
          clear c5
          obtain rfl := Option.some.inj H
          go_wp2
          go_ret
          exact ⟨er, bw⟩
  · rw [if_neg c4] at H
    have c4b0 : ((l0.length : Int) == (l1.length : Int)) = false := beq_eq_false_iff_ne.mpr c4
    have c4b1 : ((l0.length : Int) != (l1.length : Int)) = true := bne_iff_ne.mpr c4
    have c4b2 : (l0.length == l1.length) = false := by first | simpa using c4 | (simp at c4 ⊢; omega)
    obtain rfl := Option.some.inj H
    go_enter Try.func68, Try.ntmps68
    go_wp2
    go_ret
    exact ⟨er, bw⟩

/-! ### impl_SameRun: function 20 -/
def impl_SameRun.f (k : Nat) (l0_0 : List (S65)) (l0_1 : List (S98)) (l1_0 : List (S65)) (l1_1 : List (S98)) : Option (Bool) := (impl_State_impl_SameState.f k l0_0 l1_0).bind fun t288 => (if t288 = true then ((impl_Mark.f k l0_1 l1_1).bind fun t289 => (some t289)) else (some false))
theorem impl_SameRun.mono : ∀ a0 a1 a2 a3 k, LeO (impl_SameRun.f k a0 a1 a2 a3) (impl_SameRun.f (k + 1) a0 a1 a2 a3) := by
  intro a0 a1 a2 a3 k
  unfold impl_SameRun.f
  repeat' first
      | (with_reducible exact impl_Mark.mono _ _ _)
      | (with_reducible exact impl_State_impl_SameState.mono _ _ _)
      | (with_reducible exact LeO.refl _)
      | (with_reducible exact LeO.none _)
      | (with_reducible refine LeO.ite ?_ ?_)
      | (with_reducible refine LeO.bind ?_ (fun _ => ?_))
      | exact impl_Mark.mono _ _ _
      | exact impl_State_impl_SameState.mono _ _ _
      | exact LeO.none _
      | refine LeO.ite ?_ ?_
      | refine LeO.bind ?_ (fun _ => ?_)
set_option maxHeartbeats 8000000 in
set_option maxRecDepth 100000 in
theorem impl_SameRun.calls (k : Nat) (A0_0 : Option Addr) (c0_0 : Nat) (l0_0 : List (S65)) (A0_1 : Option Addr) (c0_1 : Nat) (l0_1 : List (S98)) (A1_0 : Option Addr) (c1_0 : Nat) (l1_0 : List (S65)) (A1_1 : Option Addr) (c1_1 : Nat) (l1_1 : List (S98)) (r : Bool) (w : World) (hr0_0 : Kd.C k65 w A0_0 l0_0.length l0_0) (hc0_0 : l0_0.length ≤ c0_0) (hr0_1 : Kd.C k98 w A0_1 l0_1.length l0_1) (hc0_1 : l0_1.length ≤ c0_1) (hr1_0 : Kd.C k65 w A1_0 l1_0.length l1_0) (hc1_0 : l1_0.length ≤ c1_0) (hr1_1 : Kd.C k98 w A1_1 l1_1.length l1_1) (hc1_1 : l1_1.length ≤ c1_1) (h : impl_SameRun.f k l0_0 l0_1 l1_0 l1_1 = some r) :
    Calls Try.prog 20 #[.agg #[.slice A0_0 l0_0.length c0_0, .slice A0_1 l0_1.length c0_1], .agg #[.slice A1_0 l1_0.length c1_0, .slice A1_1 l1_1.length c1_1]] w fun e w' => e = .returned (.bool r) ∧ Below w.heap.size w w' := by
  have hu43 := Try.underlying43
  have HR0_0 := Aside0.mk hr0_0
  have HC0_0 := Aside0.mk hc0_0
  clear hr0_0 hc0_0
  have HR0_1 := Aside0.mk hr0_1
  have HC0_1 := Aside0.mk hc0_1
  clear hr0_1 hc0_1
  have HR1_0 := Aside0.mk hr1_0
  have HC1_0 := Aside0.mk hc1_0
  clear hr1_0 hc1_0
  have HR1_1 := Aside0.mk hr1_1
  have HC1_1 := Aside0.mk hc1_1
  clear hr1_1 hc1_1
  have HB := Aside0.mk (Below.refl w.heap.size w)
  have H : ((impl_State_impl_SameState.f k l0_0 l1_0).bind fun t288 => (if t288 = true then ((impl_Mark.f k l0_1 l1_1).bind fun t289 => (some t289)) else (some false))) = some r := h
  clear h
  replace H := Option.bind_eq_some_iff.mp H
  obtain ⟨t288, A30, H⟩ := H
  replace H : (if t288 = true then ((impl_Mark.f k l0_1 l1_1).bind fun t289 => (some t289)) else (some false)) = some r := H
  have A3 := Aside0.mk A30
  clear A30
  by_cases c4 : t288 = true
  · subst c4
    rw [if_pos rfl] at H
    replace H := Option.bind_eq_some_iff.mp H
    obtain ⟨t289, A50, H⟩ := H
    replace H : (some t289) = some r := H
    have A5 := Aside0.mk A50
    clear A50
    obtain rfl := Option.some.inj H
    go_enter Try.func20, Try.ntmps20
    go_wp2_with (first | ((with_reducible refine gate_dst (N := 2) rfl ?_); refine bx #[.slice A0_0 l0_0.length c0_0, .slice A0_1 l0_1.length c0_1] 43 ?_; intro gb286 hg w6 hbox hb; have BK286 := Aside0.mk hbox; have GW286 := bg hg; have GE286 := bg hg; replace HB := bs hb; clear hb hbox hg) | ((with_reducible refine gate_dst (N := 3) rfl ?_); refine bx #[.slice A1_0 l1_0.length c1_0, .slice A1_1 l1_1.length c1_1] 43 ?_; intro gb287 hg w7 hbox hb; have BK287 := Aside0.mk hbox; have GW287 := bg hg; have GE287 := bg hg; have NB286_287 := bl BK286 hg; have NB287_286 := bv BK286 hg; replace BK286 := bb BK286 hb; replace HB := bs hb; clear hb hbox hg; have hnb8 := NB286_287.out; have hnc8 := NB287_286.out; obtain ⟨z9_0, z9_1, y9_0, y9_1⟩ := bq2 BK286; obtain ⟨z10_0, z10_1, y10_0, y10_1⟩ := bq2 BK287) | ((with_reducible refine gate_callee (f := 68) rfl ?_); refine gl (some 9) Try.func68 #[.slice A0_0 l0_0.length c0_0, .slice A1_0 l1_0.length c1_0, .func (.func 69) #[] #[]] ?_; (with_reducible refine (impl_State_impl_SameState.calls k _ _ l0_0 _ _ l1_0  true _ ?side1 ?side2 ?side3 ?side4 A3.out).mono ?_); (case side1 => exact sd HR0_0); (case side2 => exact HC0_0.out); (case side3 => exact sd HR1_0); (case side4 => exact HC1_0.out); rintro e w11 ⟨rfl, hb⟩; refine ⟨_, rfl, ?_⟩; replace BK286 := bb BK286 hb; replace BK287 := bb BK287 hb; replace HB := bs hb; (try clear hb); (try clear hb2); (try clear hk); (try clear hi); obtain ⟨z12_0, z12_1, y12_0, y12_1⟩ := bq2 BK286; obtain ⟨z13_0, z13_1, y13_0, y13_1⟩ := bq2 BK287) | (go_at_call 70; (with_reducible refine (impl_Mark.calls k _ _ l0_1 _ _ l1_1 t289 _ ?side1 ?side2 ?side3 ?side4 A5.out).mono ?_); (case side1 => exact sd HR0_1); (case side2 => exact HC0_1.out); (case side3 => exact sd HR1_1); (case side4 => exact HC1_1.out); rintro e w' ⟨rfl, ⟨nd, rfl⟩⟩))
    go_ret
    exact ⟨er, bw⟩
  · replace c4 := Bool.eq_false_iff.mpr c4
    subst c4
    rw [if_neg nf] at H
    obtain rfl := Option.some.inj H
    go_enter Try.func20, Try.ntmps20
    go_wp2_with (first | ((with_reducible refine gate_dst (N := 2) rfl ?_); refine bx #[.slice A0_0 l0_0.length c0_0, .slice A0_1 l0_1.length c0_1] 43 ?_; intro gb286 hg w14 hbox hb; have BK286 := Aside0.mk hbox; have GW286 := bg hg; have GE286 := bg hg; replace HB := bs hb; clear hb hbox hg) | ((with_reducible refine gate_dst (N := 3) rfl ?_); refine bx #[.slice A1_0 l1_0.length c1_0, .slice A1_1 l1_1.length c1_1] 43 ?_; intro gb287 hg w15 hbox hb; have BK287 := Aside0.mk hbox; have GW287 := bg hg; have GE287 := bg hg; have NB286_287 := bl BK286 hg; have NB287_286 := bv BK286 hg; replace BK286 := bb BK286 hb; replace HB := bs hb; clear hb hbox hg; have hnb16 := NB286_287.out; have hnc16 := NB287_286.out; obtain ⟨z17_0, z17_1, y17_0, y17_1⟩ := bq2 BK286; obtain ⟨z18_0, z18_1, y18_0, y18_1⟩ := bq2 BK287) | ((with_reducible refine gate_callee (f := 68) rfl ?_); refine gl (some 9) Try.func68 #[.slice A0_0 l0_0.length c0_0, .slice A1_0 l1_0.length c1_0, .func (.func 69) #[] #[]] ?_; (with_reducible refine (impl_State_impl_SameState.calls k _ _ l0_0 _ _ l1_0  false _ ?side1 ?side2 ?side3 ?side4 A3.out).mono ?_); (case side1 => exact sd HR0_0); (case side2 => exact HC0_0.out); (case side3 => exact sd HR1_0); (case side4 => exact HC1_0.out); rintro e w19 ⟨rfl, hb⟩; refine ⟨_, rfl, ?_⟩; replace BK286 := bb BK286 hb; replace BK287 := bb BK287 hb; replace HB := bs hb; (try clear hb); (try clear hb2); (try clear hk); (try clear hi)))
    go_ret
    exact ⟨er, bw⟩

/-! ### laws_eqInt64S: function 25 -/
def laws_eqInt64S.l0 : Nat → List Int → List Int → Int → Option (Bool)
  | 0, _, _, _ => none
  | k + 1, x0, x1, x5 => if x5 < (x0.length : Int) then (if 0 ≤ x5 then (if x5 < (x1.length : Int) then (if (rd x0 x5) = (rd x1 x5) then (laws_eqInt64S.l0 k x0 x1 (wrap64 (x5 + 1))) else (some false)) else (none)) else (none)) else (some true)
def laws_eqInt64S.f (k : Nat) (l0 : List Int) (l1 : List Int) : Option (Bool) := if (l0.length : Int) = (l1.length : Int) then (laws_eqInt64S.l0 k l0 l1 0) else (some false)
theorem laws_eqInt64S.mono_l : ∀ k, (∀ y0 y1 y2, LeO (laws_eqInt64S.l0 k y0 y1 y2) (laws_eqInt64S.l0 (k + 1) y0 y1 y2))
  | 0 => fun _ _ _ r h => by simp [laws_eqInt64S.l0] at h
  | k + 1 => by
    have ih0 := laws_eqInt64S.mono_l k
    · intro y0 y1 y2
      unfold laws_eqInt64S.l0
      repeat' first
      | (with_reducible exact ih0 _ _ _)
      | (with_reducible exact LeO.refl _)
      | (with_reducible exact LeO.none _)
      | (with_reducible refine LeO.ite ?_ ?_)
      | (with_reducible refine LeO.bind ?_ (fun _ => ?_))
      | exact ih0 _ _ _
      | exact LeO.none _
      | refine LeO.ite ?_ ?_
      | refine LeO.bind ?_ (fun _ => ?_)
theorem laws_eqInt64S.mono : ∀ a0 a1 k, LeO (laws_eqInt64S.f k a0 a1) (laws_eqInt64S.f (k + 1) a0 a1) := by
  intro a0 a1 k
  have ih0 := laws_eqInt64S.mono_l k
  unfold laws_eqInt64S.f
  repeat' first
      | (with_reducible exact ih0 _ _ _)
      | (with_reducible exact LeO.refl _)
      | (with_reducible exact LeO.none _)
      | (with_reducible refine LeO.ite ?_ ?_)
      | (with_reducible refine LeO.bind ?_ (fun _ => ?_))
      | exact ih0 _ _ _
      | exact LeO.none _
      | refine LeO.ite ?_ ?_
      | refine LeO.bind ?_ (fun _ => ?_)
set_option maxHeartbeats 8000000 in
set_option maxRecDepth 100000 in
theorem laws_eqInt64S.calls (k : Nat) (A0 : Option Addr) (c0 : Nat) (l0 : List Int) (A1 : Option Addr) (c1 : Nat) (l1 : List Int) (r : Bool) (w : World) (hr0 : Kd.C (Kd.int .i64) w A0 l0.length l0) (hc0 : l0.length ≤ c0) (hr1 : Kd.C (Kd.int .i64) w A1 l1.length l1) (hc1 : l1.length ≤ c1) (h : laws_eqInt64S.f k l0 l1 = some r) :
    Calls Try.prog 25 #[.slice A0 l0.length c0, .slice A1 l1.length c1] w fun e w' => e = .returned (.bool r) ∧ Drawn0 w w' := by
  have HR0 := Aside0.mk hr0
  have HC0 := Aside0.mk hc0
  clear hr0 hc0
  have HR1 := Aside0.mk hr1
  have HC1 := Aside0.mk hc1
  clear hr1 hc1
  have H : (if (l0.length : Int) = (l1.length : Int) then (laws_eqInt64S.l0 k l0 l1 0) else (some false)) = some r := h
  clear h
  by_cases c3 : (l0.length : Int) = (l1.length : Int)
  · rw [if_pos c3] at H
    have c3b0 : ((l0.length : Int) == (l1.length : Int)) = true := beq_iff_eq.mpr c3
    have c3b1 : ((l0.length : Int) != (l1.length : Int)) = false := bne_eq_false_iff_eq.mpr c3
    have c3b2 : (l0.length == l1.length) = true := by first | simpa using c3 | (simp at c3 ⊢; omega)
    clear c3
    have H' := Aside0.mk H
    clear H
    go_enter Try.func25, Try.ntmps25
    go_wp2
    repeat (go_quiet (fail); try go_wp2)
    go_loopg [5] k (fun kq v5 w' => ∃ (x5_1 : Int), v5 = .int .i64 x5_1 ∧ Aside0 (laws_eqInt64S.l0 kq l0 l1 x5_1 = some r) ∧ Aside0 (kq ≤ k) ∧ Drawn0 w w')
    case atStart => exact ⟨(0), (by first | rfl | (simp; done) | (simp [*]; done)), H', ⟨Nat.le_refl _⟩, by repeat (first | exact Drawn0.refl _ | apply Drawn0.step)⟩
    case round =>
      clear H'
      try clear c1
      try clear c2
      try clear p2
      try clear c3
      try clear c3b0
      try clear c3b1
      try clear c3b2
      obtain ⟨x5_1, rfl, HA, HK1, ⟨m1, rfl⟩⟩ := hrel
      cases gk with
      | zero => exact absurd HA.out (by simp [laws_eqInt64S.l0])
      | succ k1 =>
        have H := HA.out
        clear HA
        simp only [laws_eqInt64S.l0] at H
        by_cases c4 : x5_1 < (l0.length : Int)
        · rw [if_pos c4] at H
          have c4b0 : decide (x5_1 < (l0.length : Int)) = true := decide_eq_true c4
          clear c4
          by_cases c5 : 0 ≤ x5_1
          · rw [if_pos c5] at H
            have c5b0 : decide (0 ≤ x5_1) = true := decide_eq_true c5
            clear c5
            by_cases c6 : x5_1 < (l1.length : Int)
            · rw [if_pos c6] at H
              have c6b0 : decide (x5_1 < (l1.length : Int)) = true := decide_eq_true c6
              clear c6
              by_cases c7 : (rd l0 x5_1) = (rd l1 x5_1)
              · rw [if_pos c7] at H
                have c7b0 : ((rd l0 x5_1) == (rd l1 x5_1)) = true := beq_iff_eq.mpr c7
                have c7b1 : ((rd l0 x5_1) != (rd l1 x5_1)) = false := bne_eq_false_iff_eq.mpr c7
                clear c7
                have H' := Aside0.mk H
                clear H
                have p290 : 0 ≤ (x5_1 : Int) := od
                have q290 : x5_1 < (l0.length : Int) := od
                obtain ⟨ad290, e290, hx290_0⟩ := Kd.at_int HR0.out x5_1 p290 q290
                cases e290
                replace p290 := eq_true p290
                replace q290 := eq_true q290
                have p291 : 0 ≤ (x5_1 : Int) := od
                have q291 : x5_1 < (l1.length : Int) := od
                obtain ⟨ad291, e291, hx291_0⟩ := Kd.at_int HR1.out x5_1 p291 q291
                cases e291
                replace p291 := eq_true p291
                replace q291 := eq_true q291
                go_wp2
                repeat (go_quiet (fail); try go_wp2)
                go_roundg k1
                case measure => have := HK1.out; omega
                case rel => exact ⟨(wrap64 (x5_1 + 1)), (by first | rfl | (simp; done) | (simp [*]; done)), H', ⟨by have := HK1.out; omega⟩, by repeat (first | exact Drawn0.refl _ | apply Drawn0.step)⟩
              · rw [if_neg c7] at H
                have c7b0 : ((rd l0 x5_1) == (rd l1 x5_1)) = false := beq_eq_false_iff_ne.mpr c7
                have c7b1 : ((rd l0 x5_1) != (rd l1 x5_1)) = true := bne_iff_ne.mpr c7
                obtain rfl := Option.some.inj H
                have p290 : 0 ≤ (x5_1 : Int) := od
                have q290 : x5_1 < (l0.length : Int) := od
                obtain ⟨ad290, e290, hx290_0⟩ := Kd.at_int HR0.out x5_1 p290 q290
                cases e290
                replace p290 := eq_true p290
                replace q290 := eq_true q290
                have p291 : 0 ≤ (x5_1 : Int) := od
                have q291 : x5_1 < (l1.length : Int) := od
                obtain ⟨ad291, e291, hx291_0⟩ := Kd.at_int HR1.out x5_1 p291 q291
                cases e291
                replace p291 := eq_true p291
                replace q291 := eq_true q291
                go_wp2
                repeat (go_quiet (fail); try go_wp2)
                go_ret
                exact ⟨by first | rfl | (simp; done) | (simp [*]; done), by repeat (first | exact Drawn0.refl _ | apply Drawn0.step)⟩
            · rw [if_neg c6] at H
              exact absurd H (by simp)
          · rw [if_neg c5] at H
            exact absurd H (by simp)
        · rw [if_neg c4] at H
          have c4b0 : decide (x5_1 < (l0.length : Int)) = false := decide_eq_false c4
          clear c4
          obtain rfl := Option.some.inj H
          go_wp2
          repeat (go_quiet (fail); try go_wp2)
          go_ret
          exact ⟨by first | rfl | (simp; done) | (simp [*]; done), by repeat (first | exact Drawn0.refl _ | apply Drawn0.step)⟩
  · rw [if_neg c3] at H
    have c3b0 : ((l0.length : Int) == (l1.length : Int)) = false := beq_eq_false_iff_ne.mpr c3
    have c3b1 : ((l0.length : Int) != (l1.length : Int)) = true := bne_iff_ne.mpr c3
    have c3b2 : (l0.length == l1.length) = false := by first | simpa using c3 | (simp at c3 ⊢; omega)
    obtain rfl := Option.some.inj H
    go_enter Try.func25, Try.ntmps25
    go_wp2
    repeat (go_quiet (fail); try go_wp2)
    go_ret
    exact ⟨by first | rfl | (simp; done) | (simp [*]; done), by repeat (first | exact Drawn0.refl _ | apply Drawn0.step)⟩

/-! ### laws_eqNum: function 185 -/
def laws_eqNum.f (a0_0 : Int) (a0_1 : Int) (a0_2 : Int) (a1_0 : Int) (a1_1 : Int) (a1_2 : Int) : Option (Bool) := if a0_0 = a1_0 then (if a0_1 = a1_1 then (if a0_2 = a1_2 then (some true) else (some false)) else (some false)) else (some false)
set_option maxHeartbeats 8000000 in
set_option maxRecDepth 100000 in
theorem laws_eqNum.calls (a0_0 : Int) (a0_1 : Int) (a0_2 : Int) (a1_0 : Int) (a1_1 : Int) (a1_2 : Int) (r : Bool) (w : World) (h : laws_eqNum.f a0_0 a0_1 a0_2 a1_0 a1_1 a1_2 = some r) :
    Calls Try.prog 185 #[.agg #[.int .i64 a0_0, .int .i64 a0_1, .int .i64 a0_2], .agg #[.int .i64 a1_0, .int .i64 a1_1, .int .i64 a1_2]] w fun e w' => e = .returned (.bool r) ∧ Below w.heap.size w w' := by
  have hu94 := Try.underlying94
  have HB := Aside0.mk (Below.refl w.heap.size w)
  have H : (if a0_0 = a1_0 then (if a0_1 = a1_1 then (if a0_2 = a1_2 then (some true) else (some false)) else (some false)) else (some false)) = some r := h
  clear h
  by_cases c3 : a0_0 = a1_0
  · rw [if_pos c3] at H
    have c3b0 : (a0_0 == a1_0) = true := beq_iff_eq.mpr c3
    have c3b1 : (a0_0 != a1_0) = false := bne_eq_false_iff_eq.mpr c3
    clear c3
    by_cases c4 : a0_1 = a1_1
    · rw [if_pos c4] at H
      have c4b0 : (a0_1 == a1_1) = true := beq_iff_eq.mpr c4
      have c4b1 : (a0_1 != a1_1) = false := bne_eq_false_iff_eq.mpr c4
      clear c4
      by_cases c5 : a0_2 = a1_2
      · rw [if_pos c5] at H
        have c5b0 : (a0_2 == a1_2) = true := beq_iff_eq.mpr c5
        have c5b1 : (a0_2 != a1_2) = false := bne_eq_false_iff_eq.mpr c5
        clear c5
        obtain rfl := Option.some.inj H
        go_enter Try.func185, Try.ntmps185
        go_wp2_with (first | ((with_reducible refine gate_dst (N := 2) rfl ?_); refine bx #[.int .i64 a0_0, .int .i64 a0_1, .int .i64 a0_2] 94 ?_; intro gb292 hg w6 hbox hb; have BK292 := Aside0.mk hbox; have GW292 := bg hg; have GE292 := bg hg; replace HB := bs hb; clear hb hbox hg) | ((with_reducible refine gate_dst (N := 3) rfl ?_); refine bx #[.int .i64 a1_0, .int .i64 a1_1, .int .i64 a1_2] 94 ?_; intro gb293 hg w7 hbox hb; have BK293 := Aside0.mk hbox; have GW293 := bg hg; have GE293 := bg hg; have NB292_293 := bl BK292 hg; have NB293_292 := bv BK292 hg; replace BK292 := bb BK292 hb; replace HB := bs hb; clear hb hbox hg; have hnb8 := NB292_293.out; have hnc8 := NB293_292.out; obtain ⟨z9_0, z9_1, z9_2, y9_0, y9_1, y9_2⟩ := bq3 BK292; obtain ⟨z10_0, z10_1, z10_2, y10_0, y10_1, y10_2⟩ := bq3 BK293))
        go_ret
        exact ⟨er, bw⟩
      · rw [if_neg c5] at H
        have c5b0 : (a0_2 == a1_2) = false := beq_eq_false_iff_ne.mpr c5
        have c5b1 : (a0_2 != a1_2) = true := bne_iff_ne.mpr c5
        obtain rfl := Option.some.inj H
        go_enter Try.func185, Try.ntmps185
        go_wp2_with (first | ((with_reducible refine gate_dst (N := 2) rfl ?_); refine bx #[.int .i64 a0_0, .int .i64 a0_1, .int .i64 a0_2] 94 ?_; intro gb292 hg w11 hbox hb; have BK292 := Aside0.mk hbox; have GW292 := bg hg; have GE292 := bg hg; replace HB := bs hb; clear hb hbox hg) | ((with_reducible refine gate_dst (N := 3) rfl ?_); refine bx #[.int .i64 a1_0, .int .i64 a1_1, .int .i64 a1_2] 94 ?_; intro gb293 hg w12 hbox hb; have BK293 := Aside0.mk hbox; have GW293 := bg hg; have GE293 := bg hg; have NB292_293 := bl BK292 hg; have NB293_292 := bv BK292 hg; replace BK292 := bb BK292 hb; replace HB := bs hb; clear hb hbox hg; have hnb13 := NB292_293.out; have hnc13 := NB293_292.out; obtain ⟨z14_0, z14_1, z14_2, y14_0, y14_1, y14_2⟩ := bq3 BK292; obtain ⟨z15_0, z15_1, z15_2, y15_0, y15_1, y15_2⟩ := bq3 BK293))
        go_ret
        exact ⟨er, bw⟩
    · rw [if_neg c4] at H
      have c4b0 : (a0_1 == a1_1) = false := beq_eq_false_iff_ne.mpr c4
      have c4b1 : (a0_1 != a1_1) = true := bne_iff_ne.mpr c4
      obtain rfl := Option.some.inj H
      go_enter Try.func185, Try.ntmps185
      go_wp2_with (first | ((with_reducible refine gate_dst (N := 2) rfl ?_); refine bx #[.int .i64 a0_0, .int .i64 a0_1, .int .i64 a0_2] 94 ?_; intro gb292 hg w16 hbox hb; have BK292 := Aside0.mk hbox; have GW292 := bg hg; have GE292 := bg hg; replace HB := bs hb; clear hb hbox hg) | ((with_reducible refine gate_dst (N := 3) rfl ?_); refine bx #[.int .i64 a1_0, .int .i64 a1_1, .int .i64 a1_2] 94 ?_; intro gb293 hg w17 hbox hb; have BK293 := Aside0.mk hbox; have GW293 := bg hg; have GE293 := bg hg; have NB292_293 := bl BK292 hg; have NB293_292 := bv BK292 hg; replace BK292 := bb BK292 hb; replace HB := bs hb; clear hb hbox hg; have hnb18 := NB292_293.out; have hnc18 := NB293_292.out; obtain ⟨z19_0, z19_1, z19_2, y19_0, y19_1, y19_2⟩ := bq3 BK292; obtain ⟨z20_0, z20_1, z20_2, y20_0, y20_1, y20_2⟩ := bq3 BK293))
      go_ret
      exact ⟨er, bw⟩
  · rw [if_neg c3] at H
    have c3b0 : (a0_0 == a1_0) = false := beq_eq_false_iff_ne.mpr c3
    have c3b1 : (a0_0 != a1_0) = true := bne_iff_ne.mpr c3
    obtain rfl := Option.some.inj H
    go_enter Try.func185, Try.ntmps185
    go_wp2_with (first | ((with_reducible refine gate_dst (N := 2) rfl ?_); refine bx #[.int .i64 a0_0, .int .i64 a0_1, .int .i64 a0_2] 94 ?_; intro gb292 hg w21 hbox hb; have BK292 := Aside0.mk hbox; have GW292 := bg hg; have GE292 := bg hg; replace HB := bs hb; clear hb hbox hg) | ((with_reducible refine gate_dst (N := 3) rfl ?_); refine bx #[.int .i64 a1_0, .int .i64 a1_1, .int .i64 a1_2] 94 ?_; intro gb293 hg w22 hbox hb; have BK293 := Aside0.mk hbox; have GW293 := bg hg; have GE293 := bg hg; have NB292_293 := bl BK292 hg; have NB293_292 := bv BK292 hg; replace BK292 := bb BK292 hb; replace HB := bs hb; clear hb hbox hg; have hnb23 := NB292_293.out; have hnc23 := NB293_292.out; obtain ⟨z24_0, z24_1, z24_2, y24_0, y24_1, y24_2⟩ := bq3 BK292; obtain ⟨z25_0, z25_1, z25_2, y25_0, y25_1, y25_2⟩ := bq3 BK293))
    go_ret
    exact ⟨er, bw⟩

/-! ### laws_eqPoint: function 150 -/
def laws_eqPoint.f (a0_0 : Int) (a0_1 : Int) (a0_2 : Int) (a0_3 : Int) (a0_4 : Int) (a0_5 : Int) (a1_0 : Int) (a1_1 : Int) (a1_2 : Int) (a1_3 : Int) (a1_4 : Int) (a1_5 : Int) : Option (Bool) := (laws_eqNum.f a0_0 a0_1 a0_2 a1_0 a1_1 a1_2).bind fun t296 => (if t296 = true then ((laws_eqNum.f a0_3 a0_4 a0_5 a1_3 a1_4 a1_5).bind fun t297 => (if t297 = true then (some true) else (some false))) else (some false))
set_option maxHeartbeats 8000000 in
set_option maxRecDepth 100000 in
theorem laws_eqPoint.calls (a0_0 : Int) (a0_1 : Int) (a0_2 : Int) (a0_3 : Int) (a0_4 : Int) (a0_5 : Int) (a1_0 : Int) (a1_1 : Int) (a1_2 : Int) (a1_3 : Int) (a1_4 : Int) (a1_5 : Int) (r : Bool) (w : World) (h : laws_eqPoint.f a0_0 a0_1 a0_2 a0_3 a0_4 a0_5 a1_0 a1_1 a1_2 a1_3 a1_4 a1_5 = some r) :
    Calls Try.prog 150 #[.agg #[.int .i64 a0_0, .int .i64 a0_1, .int .i64 a0_2, .int .i64 a0_3, .int .i64 a0_4, .int .i64 a0_5], .agg #[.int .i64 a1_0, .int .i64 a1_1, .int .i64 a1_2, .int .i64 a1_3, .int .i64 a1_4, .int .i64 a1_5]] w fun e w' => e = .returned (.bool r) ∧ Below w.heap.size w w' := by
  have hu130 := Try.underlying130
  have hu94 := Try.underlying94
  have HB := Aside0.mk (Below.refl w.heap.size w)
  have H : ((laws_eqNum.f a0_0 a0_1 a0_2 a1_0 a1_1 a1_2).bind fun t296 => (if t296 = true then ((laws_eqNum.f a0_3 a0_4 a0_5 a1_3 a1_4 a1_5).bind fun t297 => (if t297 = true then (some true) else (some false))) else (some false))) = some r := h
  clear h
  replace H := Option.bind_eq_some_iff.mp H
  obtain ⟨t296, A30, H⟩ := H
  replace H : (if t296 = true then ((laws_eqNum.f a0_3 a0_4 a0_5 a1_3 a1_4 a1_5).bind fun t297 => (if t297 = true then (some true) else (some false))) else (some false)) = some r := H
  have A3 := Aside0.mk A30
  clear A30
  by_cases c4 : t296 = true
  · subst c4
    rw [if_pos rfl] at H
    replace H := Option.bind_eq_some_iff.mp H
    obtain ⟨t297, A50, H⟩ := H
    replace H : (if t297 = true then (some true) else (some false)) = some r := H
    have A5 := Aside0.mk A50
    clear A50
    by_cases c6 : t297 = true
    · subst c6
      rw [if_pos rfl] at H
      obtain rfl := Option.some.inj H
      go_enter Try.func150, Try.ntmps150
      go_wp2_with (first | ((with_reducible refine gate_dst (N := 2) rfl ?_); refine bx #[.int .i64 a0_0, .int .i64 a0_1, .int .i64 a0_2, .int .i64 a0_3, .int .i64 a0_4, .int .i64 a0_5] 130 ?_; intro gb294 hg w7 hbox hb; have BK294 := Aside0.mk hbox; have GW294 := bg hg; have GE294 := bg hg; replace HB := bs hb; clear hb hbox hg) | ((with_reducible refine gate_dst (N := 3) rfl ?_); refine bx #[.int .i64 a1_0, .int .i64 a1_1, .int .i64 a1_2, .int .i64 a1_3, .int .i64 a1_4, .int .i64 a1_5] 130 ?_; intro gb295 hg w8 hbox hb; have BK295 := Aside0.mk hbox; have GW295 := bg hg; have GE295 := bg hg; have NB294_295 := bl BK294 hg; have NB295_294 := bv BK294 hg; replace BK294 := bb BK294 hb; replace HB := bs hb; clear hb hbox hg; have hnb9 := NB294_295.out; have hnc9 := NB295_294.out; obtain ⟨z10_0, z10_1, z10_2, z10_3, z10_4, z10_5, y10_0, y10_1, y10_2, y10_3, y10_4, y10_5⟩ := bq6 BK294; obtain ⟨z11_0, z11_1, z11_2, z11_3, z11_4, z11_5, y11_0, y11_1, y11_2, y11_3, y11_4, y11_5⟩ := bq6 BK295) | ((with_reducible refine gate_callee (f := 185) rfl ?_); refine gl (some 9) Try.func185 #[.agg #[.int .i64 a0_0, .int .i64 a0_1, .int .i64 a0_2], .agg #[.int .i64 a1_0, .int .i64 a1_1, .int .i64 a1_2]] ?_; (with_reducible refine (laws_eqNum.calls a0_0 a0_1 a0_2 a1_0 a1_1 a1_2 true _ A3.out).mono ?_); rintro e w12 ⟨rfl, hb⟩; refine ⟨_, rfl, ?_⟩; replace BK294 := bb BK294 hb; replace BK295 := bb BK295 hb; replace HB := bs hb; (try clear hb); (try clear hb2); (try clear hk); (try clear hi); obtain ⟨z13_0, z13_1, z13_2, z13_3, z13_4, z13_5, y13_0, y13_1, y13_2, y13_3, y13_4, y13_5⟩ := bq6 BK294; obtain ⟨z14_0, z14_1, z14_2, z14_3, z14_4, z14_5, y14_0, y14_1, y14_2, y14_3, y14_4, y14_5⟩ := bq6 BK295) | ((with_reducible refine gate_callee (f := 185) rfl ?_); refine gl (some 15) Try.func185 #[.agg #[.int .i64 a0_3, .int .i64 a0_4, .int .i64 a0_5], .agg #[.int .i64 a1_3, .int .i64 a1_4, .int .i64 a1_5]] ?_; (with_reducible refine (laws_eqNum.calls a0_3 a0_4 a0_5 a1_3 a1_4 a1_5 true _ A5.out).mono ?_); rintro e w15 ⟨rfl, hb⟩; refine ⟨_, rfl, ?_⟩; replace BK294 := bb BK294 hb; replace BK295 := bb BK295 hb; replace HB := bs hb; (try clear hb); (try clear hb2); (try clear hk); (try clear hi)))
      go_ret
      exact ⟨er, bw⟩
    · replace c6 := Bool.eq_false_iff.mpr c6
      subst c6
      rw [if_neg nf] at H
      obtain rfl := Option.some.inj H
      go_enter Try.func150, Try.ntmps150
      go_wp2_with (first | ((with_reducible refine gate_dst (N := 2) rfl ?_); refine bx #[.int .i64 a0_0, .int .i64 a0_1, .int .i64 a0_2, .int .i64 a0_3, .int .i64 a0_4, .int .i64 a0_5] 130 ?_; intro gb294 hg w16 hbox hb; have BK294 := Aside0.mk hbox; have GW294 := bg hg; have GE294 := bg hg; replace HB := bs hb; clear hb hbox hg) | ((with_reducible refine gate_dst (N := 3) rfl ?_); refine bx #[.int .i64 a1_0, .int .i64 a1_1, .int .i64 a1_2, .int .i64 a1_3, .int .i64 a1_4, .int .i64 a1_5] 130 ?_; intro gb295 hg w17 hbox hb; have BK295 := Aside0.mk hbox; have GW295 := bg hg; have GE295 := bg hg; have NB294_295 := bl BK294 hg; have NB295_294 := bv BK294 hg; replace BK294 := bb BK294 hb; replace HB := bs hb; clear hb hbox hg; have hnb18 := NB294_295.out; have hnc18 := NB295_294.out; obtain ⟨z19_0, z19_1, z19_2, z19_3, z19_4, z19_5, y19_0, y19_1, y19_2, y19_3, y19_4, y19_5⟩ := bq6 BK294; obtain ⟨z20_0, z20_1, z20_2, z20_3, z20_4, z20_5, y20_0, y20_1, y20_2, y20_3, y20_4, y20_5⟩ := bq6 BK295) | ((with_reducible refine gate_callee (f := 185) rfl ?_); refine gl (some 9) Try.func185 #[.agg #[.int .i64 a0_0, .int .i64 a0_1, .int .i64 a0_2], .agg #[.int .i64 a1_0, .int .i64 a1_1, .int .i64 a1_2]] ?_; (with_reducible refine (laws_eqNum.calls a0_0 a0_1 a0_2 a1_0 a1_1 a1_2 true _ A3.out).mono ?_); rintro e w21 ⟨rfl, hb⟩; refine ⟨_, rfl, ?_⟩; replace BK294 := bb BK294 hb; replace BK295 := bb BK295 hb; replace HB := bs hb; (try clear hb); (try clear hb2); (try clear hk); (try clear hi); obtain ⟨z22_0, z22_1, z22_2, z22_3, z22_4, z22_5, y22_0, y22_1, y22_2, y22_3, y22_4, y22_5⟩ := bq6 BK294; obtain ⟨z23_0, z23_1, z23_2, z23_3, z23_4, z23_5, y23_0, y23_1, y23_2, y23_3, y23_4, y23_5⟩ := bq6 BK295) | ((with_reducible refine gate_callee (f := 185) rfl ?_); refine gl (some 15) Try.func185 #[.agg #[.int .i64 a0_3, .int .i64 a0_4, .int .i64 a0_5], .agg #[.int .i64 a1_3, .int .i64 a1_4, .int .i64 a1_5]] ?_; (with_reducible refine (laws_eqNum.calls a0_3 a0_4 a0_5 a1_3 a1_4 a1_5 false _ A5.out).mono ?_); rintro e w24 ⟨rfl, hb⟩; refine ⟨_, rfl, ?_⟩; replace BK294 := bb BK294 hb; replace BK295 := bb BK295 hb; replace HB := bs hb; (try clear hb); (try clear hb2); (try clear hk); (try clear hi)))
      go_ret
      exact ⟨er, bw⟩
  · replace c4 := Bool.eq_false_iff.mpr c4
    subst c4
    rw [if_neg nf] at H
    obtain rfl := Option.some.inj H
    go_enter Try.func150, Try.ntmps150
    go_wp2_with (first | ((with_reducible refine gate_dst (N := 2) rfl ?_); refine bx #[.int .i64 a0_0, .int .i64 a0_1, .int .i64 a0_2, .int .i64 a0_3, .int .i64 a0_4, .int .i64 a0_5] 130 ?_; intro gb294 hg w25 hbox hb; have BK294 := Aside0.mk hbox; have GW294 := bg hg; have GE294 := bg hg; replace HB := bs hb; clear hb hbox hg) | ((with_reducible refine gate_dst (N := 3) rfl ?_); refine bx #[.int .i64 a1_0, .int .i64 a1_1, .int .i64 a1_2, .int .i64 a1_3, .int .i64 a1_4, .int .i64 a1_5] 130 ?_; intro gb295 hg w26 hbox hb; have BK295 := Aside0.mk hbox; have GW295 := bg hg; have GE295 := bg hg; have NB294_295 := bl BK294 hg; have NB295_294 := bv BK294 hg; replace BK294 := bb BK294 hb; replace HB := bs hb; clear hb hbox hg; have hnb27 := NB294_295.out; have hnc27 := NB295_294.out; obtain ⟨z28_0, z28_1, z28_2, z28_3, z28_4, z28_5, y28_0, y28_1, y28_2, y28_3, y28_4, y28_5⟩ := bq6 BK294; obtain ⟨z29_0, z29_1, z29_2, z29_3, z29_4, z29_5, y29_0, y29_1, y29_2, y29_3, y29_4, y29_5⟩ := bq6 BK295) | ((with_reducible refine gate_callee (f := 185) rfl ?_); refine gl (some 9) Try.func185 #[.agg #[.int .i64 a0_0, .int .i64 a0_1, .int .i64 a0_2], .agg #[.int .i64 a1_0, .int .i64 a1_1, .int .i64 a1_2]] ?_; (with_reducible refine (laws_eqNum.calls a0_0 a0_1 a0_2 a1_0 a1_1 a1_2 false _ A3.out).mono ?_); rintro e w30 ⟨rfl, hb⟩; refine ⟨_, rfl, ?_⟩; replace BK294 := bb BK294 hb; replace BK295 := bb BK295 hb; replace HB := bs hb; (try clear hb); (try clear hb2); (try clear hk); (try clear hi)))
    go_ret
    exact ⟨er, bw⟩

end Go.Proofs.Yteadienaeapaeaa.PC
