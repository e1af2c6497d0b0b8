-- Made by a program of this session (myprint.py) out of the translation.
import Derived.Test.YteadienaeapaeaaZsrPCx0
import Derived.Test.YteadienaeapaeaaZsrPCx1
import Derived.Test.YteadienaeapaeaaZsrPCx5
import Derived.Test.YteadienaeapaeaaZsrShort
namespace Go.Proofs.Yteadienaeapaeaa.PC
open Go.Proofs.Yteadienaeapaeaa.Short
open Go.Proofs.Yteadienaeapaeaa.Dyn
open Go.RowKit Go.Proofs.YteadienaeapaeaaW.PrintWords Go.Proofs.YteadienaeapaeaaW.PrintLast Go.Proofs.YteadienaeapaeaaW.PrintMore
attribute [local go_sem] max2_int min2_int max_two min_two max_three min_three max_four min_four   -- for this text's walks alone
set_option linter.unusedVariables false
set_option linter.unusedSimpArgs false

attribute [local go_sem high] eqA98
/-! ### spec_SameRun: function 18 -/
mutual
def spec_SameRun.j0 : Nat → Bool → List (S65) → List (S98) → List (S65) → List (S98) → Option (Bool)
  | 0, _, _, _, _, _ => none
  | k + 1, x22, x131000, x131001, x132000, x132001 => if x22 = true then (some false) else (spec_SameRun.l0 k 0 x131000 x131001 x132000 x132001)
def spec_SameRun.l0 : Nat → Int → List (S65) → List (S98) → List (S65) → List (S98) → Option (Bool)
  | 0, _, _, _, _, _ => none
  | k + 1, x5, x131000, x131001, x132000, x132001 => if x5 < (x131000.length : Int) then (if 0 ≤ x5 then (if x5 < (x132000.length : Int) then ((spec_SameState.f k ((rd_T65 x131000 x5).f0) ((rd_T65 x131000 x5).f1) ((rd_T65 x131000 x5).f2) ((rd_T65 x132000 x5).f0) ((rd_T65 x132000 x5).f1) ((rd_T65 x132000 x5).f2)).bind fun t134 => (if t134 = true then (spec_SameRun.l0 k (wrap64 (x5 + 1)) x131000 x131001 x132000 x132001) else (some false))) else (none)) else (none)) else (spec_SameRun.l1 k 0 x131000 x131001 x132000 x132001)
def spec_SameRun.l1 : Nat → Int → List (S65) → List (S98) → List (S65) → List (S98) → Option (Bool)
  | 0, _, _, _, _, _ => none
  | k + 1, x6, x131000, x131001, x132000, x132001 => if x6 < (x131001.length : Int) then (if 0 ≤ x6 then (if x6 < (x132001.length : Int) then (if (!((((rd_T98 x131001 x6).f0).toList) == (((rd_T98 x132001 x6).f0).toList)) || ((!(((rd_T98 x131001 x6).f1.f0) == ((rd_T98 x132001 x6).f1.f0)) || ((!(((rd_T98 x131001 x6).f1.f1.f0) == ((rd_T98 x132001 x6).f1.f1.f0)) || (!(((rd_T98 x131001 x6).f1.f1.f1) == ((rd_T98 x132001 x6).f1.f1.f1)) || (!(((rd_T98 x131001 x6).f1.f1.f2) == ((rd_T98 x132001 x6).f1.f1.f2))))))))) = true then (some false) else (spec_SameRun.l1 k (wrap64 (x6 + 1)) x131000 x131001 x132000 x132001)) else (none)) else (none)) else (some true)
end
def spec_SameRun.f (k : Nat) (l0_0 : List (S65)) (l0_1 : List (S98)) (l1_0 : List (S65)) (l1_1 : List (S98)) : Option (Bool) := if (l0_0.length : Int) = (l1_0.length : Int) then (spec_SameRun.j0 k ((l0_1.length : Int) != (l1_1.length : Int)) l0_0 l0_1 l1_0 l1_1) else (spec_SameRun.j0 k true l0_0 l0_1 l1_0 l1_1)
theorem spec_SameRun.mono_l : ∀ k, (∀ y0 y1 y2 y3 y4, LeO (spec_SameRun.j0 k y0 y1 y2 y3 y4) (spec_SameRun.j0 (k + 1) y0 y1 y2 y3 y4)) ∧ (∀ y0 y1 y2 y3 y4, LeO (spec_SameRun.l0 k y0 y1 y2 y3 y4) (spec_SameRun.l0 (k + 1) y0 y1 y2 y3 y4)) ∧ (∀ y0 y1 y2 y3 y4, LeO (spec_SameRun.l1 k y0 y1 y2 y3 y4) (spec_SameRun.l1 (k + 1) y0 y1 y2 y3 y4))
  | 0 => ⟨fun _ _ _ _ _ r h => by simp [spec_SameRun.j0] at h, fun _ _ _ _ _ r h => by simp [spec_SameRun.l0] at h, fun _ _ _ _ _ r h => by simp [spec_SameRun.l1] at h⟩
  | k + 1 => by
    obtain ⟨ih0, ih1, ih2⟩ := spec_SameRun.mono_l k
    refine ⟨?_, ?_, ?_⟩
    · intro y0 y1 y2 y3 y4
      unfold spec_SameRun.j0
      repeat' first
      | (with_reducible exact ih0 _ _ _ _ _)
      | (with_reducible exact ih1 _ _ _ _ _)
      | (with_reducible exact ih2 _ _ _ _ _)
      | (with_reducible exact spec_SameState.mono _ _ _ _ _ _ _)
      | (with_reducible exact LeO.refl _)
      | (with_reducible exact LeO.none _)
      | (with_reducible refine LeO.ite ?_ ?_)
      | (with_reducible refine LeO.bind ?_ (fun _ => ?_))
      | exact ih0 _ _ _ _ _
      | exact ih1 _ _ _ _ _
      | exact ih2 _ _ _ _ _
      | exact spec_SameState.mono _ _ _ _ _ _ _
      | exact LeO.none _
      | refine LeO.ite ?_ ?_
      | refine LeO.bind ?_ (fun _ => ?_)
    · intro y0 y1 y2 y3 y4
      unfold spec_SameRun.l0
      repeat' first
      | (with_reducible exact ih0 _ _ _ _ _)
      | (with_reducible exact ih1 _ _ _ _ _)
      | (with_reducible exact ih2 _ _ _ _ _)
      | (with_reducible exact spec_SameState.mono _ _ _ _ _ _ _)
      | (with_reducible exact LeO.refl _)
      | (with_reducible exact LeO.none _)
      | (with_reducible refine LeO.ite ?_ ?_)
      | (with_reducible refine LeO.bind ?_ (fun _ => ?_))
      | exact ih0 _ _ _ _ _
      | exact ih1 _ _ _ _ _
      | exact ih2 _ _ _ _ _
      | exact spec_SameState.mono _ _ _ _ _ _ _
      | exact LeO.none _
      | refine LeO.ite ?_ ?_
      | refine LeO.bind ?_ (fun _ => ?_)
    · intro y0 y1 y2 y3 y4
      unfold spec_SameRun.l1
      repeat' first
      | (with_reducible exact ih0 _ _ _ _ _)
      | (with_reducible exact ih1 _ _ _ _ _)
      | (with_reducible exact ih2 _ _ _ _ _)
      | (with_reducible exact spec_SameState.mono _ _ _ _ _ _ _)
      | (with_reducible exact LeO.refl _)
      | (with_reducible exact LeO.none _)
      | (with_reducible refine LeO.ite ?_ ?_)
      | (with_reducible refine LeO.bind ?_ (fun _ => ?_))
      | exact ih0 _ _ _ _ _
      | exact ih1 _ _ _ _ _
      | exact ih2 _ _ _ _ _
      | exact spec_SameState.mono _ _ _ _ _ _ _
      | exact LeO.none _
      | refine LeO.ite ?_ ?_
      | refine LeO.bind ?_ (fun _ => ?_)
theorem spec_SameRun.mono : ∀ a0 a1 a2 a3 k, LeO (spec_SameRun.f k a0 a1 a2 a3) (spec_SameRun.f (k + 1) a0 a1 a2 a3) := by
  intro a0 a1 a2 a3 k
  obtain ⟨ih0, ih1, ih2⟩ := spec_SameRun.mono_l k
  unfold spec_SameRun.f
  repeat' first
      | (with_reducible exact ih0 _ _ _ _ _)
      | (with_reducible exact ih1 _ _ _ _ _)
      | (with_reducible exact ih2 _ _ _ _ _)
      | (with_reducible exact spec_SameState.mono _ _ _ _ _ _ _)
      | (with_reducible exact LeO.refl _)
      | (with_reducible exact LeO.none _)
      | (with_reducible refine LeO.ite ?_ ?_)
      | (with_reducible refine LeO.bind ?_ (fun _ => ?_))
      | exact ih0 _ _ _ _ _
      | exact ih1 _ _ _ _ _
      | exact ih2 _ _ _ _ _
      | exact spec_SameState.mono _ _ _ _ _ _ _
      | exact LeO.none _
      | refine LeO.ite ?_ ?_
      | refine LeO.bind ?_ (fun _ => ?_)
def spec_SameRun.T6 : Bool × List (List Nat × List Nat) := (true, [([], []), ([0], [0]), ([], []), ([1, 2], [1, 2]), ([3], [3]), ([], []), ([5], [5]), ([], []), ([6, 7], [6, 7]), ([8], [8]), ([4, 9], [4, 9]), ([10], [10])])
def spec_SameRun.B6 : List Nat := [0, 1, 0, 7, 15, 0, 32, 0, 224, 480, 1023, 2047]
theorem spec_SameRun.tab6 : rtab .any (opsOf Try.f18 6) = spec_SameRun.T6 := by kernel_rfl
theorem spec_SameRun.bits6 : waitsOk spec_SameRun.T6.2 spec_SameRun.B6 = true := by kernel_rfl
def spec_SameRun.T11 : Bool × List (List Nat × List Nat) := (true, [([], []), ([0], [0]), ([], []), ([1, 2], [1, 2]), ([3], [3]), ([], []), ([5], [5]), ([], []), ([6, 7], [6, 7]), ([8], [8]), ([4, 9], [4, 9])])
def spec_SameRun.B11 : List Nat := [0, 1, 0, 7, 15, 0, 32, 0, 224, 480, 1023]
theorem spec_SameRun.tab11 : rtab .any (opsOf Try.f18 11) = spec_SameRun.T11 := by kernel_rfl
theorem spec_SameRun.bits11 : waitsOk spec_SameRun.T11.2 spec_SameRun.B11 = true := by kernel_rfl
set_option maxHeartbeats 8000000 in
set_option maxRecDepth 100000 in
theorem spec_SameRun.calls (k : Nat) (A0_0 : Option Addr) (c0_0 : Nat) (l0_0 : List (S65)) (A0_1 : Option Addr) (c0_1 : Nat) (l0_1 : List (S98)) (A1_0 : Option Addr) (c1_0 : Nat) (l1_0 : List (S65)) (A1_1 : Option Addr) (c1_1 : Nat) (l1_1 : List (S98)) (r : Bool) (w : World) (hr0_0 : Kd.C k65 w A0_0 l0_0.length l0_0) (hc0_0 : l0_0.length ≤ c0_0) (hr0_1 : Kd.C k98 w A0_1 l0_1.length l0_1) (hc0_1 : l0_1.length ≤ c0_1) (hr1_0 : Kd.C k65 w A1_0 l1_0.length l1_0) (hc1_0 : l1_0.length ≤ c1_0) (hr1_1 : Kd.C k98 w A1_1 l1_1.length l1_1) (hc1_1 : l1_1.length ≤ c1_1) (h : spec_SameRun.f k l0_0 l0_1 l1_0 l1_1 = some r) :
    Calls Try.prog 18 #[.agg #[.slice A0_0 l0_0.length c0_0, .slice A0_1 l0_1.length c0_1], .agg #[.slice A1_0 l1_0.length c1_0, .slice A1_1 l1_1.length c1_1]] w fun e w' => e = .returned (.bool r) ∧ Below w.heap.size w w' := by
  have hu43 := Try.underlying43
  have hu65 := Try.underlying65
  have hu98 := Try.underlying98
  have HR0_0 := Aside0.mk hr0_0
  have HC0_0 := Aside0.mk hc0_0
  clear hr0_0 hc0_0
  have HR0_1 := Aside0.mk hr0_1
  have HC0_1 := Aside0.mk hc0_1
  clear hr0_1 hc0_1
  have HR1_0 := Aside0.mk hr1_0
  have HC1_0 := Aside0.mk hc1_0
  clear hr1_0 hc1_0
  have HR1_1 := Aside0.mk hr1_1
  have HC1_1 := Aside0.mk hc1_1
  clear hr1_1 hc1_1
  have HB := Aside0.mk (Below.refl w.heap.size w)
  have H : (if (l0_0.length : Int) = (l1_0.length : Int) then (spec_SameRun.j0 k ((l0_1.length : Int) != (l1_1.length : Int)) l0_0 l0_1 l1_0 l1_1) else (spec_SameRun.j0 k true l0_0 l0_1 l1_0 l1_1)) = some r := h
  clear h
  have HC3 := Aside0.mk H
  clear H
  go_enter Try.func18, Try.ntmps18
  go_upto_region 1 with (first | ((with_reducible refine gate_dst (N := 2) rfl ?_); (try (refine gate_guard (by rfl) ?_; dsimp only)); refine bx #[.slice A0_0 l0_0.length c0_0, .slice A0_1 l0_1.length c0_1] 43 ?_; intro gb130 hg w4 hbox hb; have BK130 := Aside0.mk hbox; have GW130 := bg hg; have GE130 := bg hg; replace HB := bs hb; clear hb hbox hg) | ((with_reducible refine gate_dst (N := 3) rfl ?_); (try (refine gate_guard (by rfl) ?_; dsimp only)); refine bx #[.slice A1_0 l1_0.length c1_0, .slice A1_1 l1_1.length c1_1] 43 ?_; intro gb131 hg w5 hbox hb; have BK131 := Aside0.mk hbox; have GW131 := bg hg; have GE131 := bg hg; have NB130_131 := bl BK130 hg; have NB131_130 := bv BK130 hg; replace BK130 := bb BK130 hb; replace HB := bs hb; clear hb hbox hg))
  (try simp only [Act.put, List.setIfInBounds_toArray, List.set_cons_zero, List.set_cons_succ])
  go_cut [22] (fun v22 wc => ∃ (kq : Nat) (x22_2 : Bool), v22 = .bool x22_2 ∧ Aside0 (spec_SameRun.j0 kq x22_2 l0_0 l0_1 l1_0 l1_1 = some r) ∧ Aside0 (kq ≤ k) ∧ Aside0 (wc.heap[gb130]? = some (.cells #[(.slice A0_0 l0_0.length c0_0), (.slice A0_1 l0_1.length c0_1)] 43 (0, 0))) ∧ Aside0 (wc.heap[gb131]? = some (.cells #[(.slice A1_0 l1_0.length c1_0), (.slice A1_1 l1_1.length c1_1)] 43 (0, 0))) ∧ Aside0 (Below w.heap.size w wc))
  case first =>
    have H := HC3.out
    clear HC3
    by_cases c6 : (l0_0.length : Int) = (l1_0.length : Int)
    · rw [if_pos c6] at H
      have c6b0 : ((l0_0.length : Int) == (l1_0.length : Int)) = true := beq_iff_eq.mpr c6
      have c6b1 : ((l0_0.length : Int) != (l1_0.length : Int)) = false := bne_eq_false_iff_eq.mpr c6
      have c6b2 : (l0_0.length == l1_0.length) = true := by first | simpa using c6 | (simp at c6 ⊢; omega)
      clear c6
      (first | rw [c6b0] | (simp only [i64_w, i32_w]; rw [c6b0]) | skip)
      have H' := Aside0.mk H
      clear H
      have hnb7 := NB130_131.out
      have hnc7 := NB131_130.out
      obtain ⟨z8_0, z8_1, y8_0, y8_1⟩ := bq2 BK130
      obtain ⟨z9_0, z9_1, y9_0, y9_1⟩ := bq2 BK131
      go_wp2
      go_meet
      case rel => exact ⟨_, (((l0_1.length : Int) != (l1_1.length : Int))), (by first | rfl | (simp; done) | (simp [*]; done)), H', ⟨by first | omega | exact Nat.le_refl _⟩, ⟨by refine bk (h := ?_); exact BK130.out⟩, ⟨by refine bk (h := ?_); exact BK131.out⟩, ⟨bw⟩⟩
    · rw [if_neg c6] at H
      have c6b0 : ((l0_0.length : Int) == (l1_0.length : Int)) = false := beq_eq_false_iff_ne.mpr c6
      have c6b1 : ((l0_0.length : Int) != (l1_0.length : Int)) = true := bne_iff_ne.mpr c6
      have c6b2 : (l0_0.length == l1_0.length) = false := by first | simpa using c6 | (simp at c6 ⊢; omega)
      (first | rw [c6b0] | (simp only [i64_w, i32_w]; rw [c6b0]) | skip)
      have H' := Aside0.mk H
      clear H
      have hnb10 := NB130_131.out
      have hnc10 := NB131_130.out
      obtain ⟨z11_0, z11_1, y11_0, y11_1⟩ := bq2 BK130
      obtain ⟨z12_0, z12_1, y12_0, y12_1⟩ := bq2 BK131
      go_wp2
      go_meet
      case rel => exact ⟨_, (true), (by first | rfl | (simp; done) | (simp [*]; done)), H', ⟨by first | omega | exact Nat.le_refl _⟩, ⟨by refine bk (h := ?_); exact BK130.out⟩, ⟨by refine bk (h := ?_); exact BK131.out⟩, ⟨bw⟩⟩
  case rest =>
    clear HC3
    try clear c1
    try clear p2
    try clear c6
    try clear c6b0
    try clear c6b1
    try clear c6b2
    try clear c7
    try clear c10
    try clear z11_0 z11_1 y11_0 y11_1
    try clear z12_0 z12_1 y12_0 y12_1
    try clear z8_0 z8_1 y8_0 y8_1
    try clear z9_0 z9_1 y9_0 y9_1
    obtain ⟨kq, x22_2, rfl, HA, HJ2, BK130, BK131, HB⟩ := hcut
    cases kq with
    | zero => exact absurd HA.out (by simp [spec_SameRun.j0])
    | succ kj2 =>
      have H := HA.out
      clear HA
      simp only [spec_SameRun.j0] at H
      by_cases c13 : x22_2 = true
      · subst c13
        rw [if_pos rfl] at H
        obtain rfl := Option.some.inj H
        go_wp2
        go_ret
        exact ⟨er, bw⟩
      · replace c13 := Bool.eq_false_iff.mpr c13
        subst c13
        rw [if_neg nf] at H
        have H' := Aside0.mk H
        clear H
        go_wp2
        go_loopg [5] kj2 (fun kq v5 w' => ∃ (x5_2 : Int), v5 = .int .i64 x5_2 ∧ Aside0 (spec_SameRun.l0 kq x5_2 l0_0 l0_1 l1_0 l1_1 = some r) ∧ Aside0 (kq ≤ kj2) ∧ Aside0 (w'.heap[gb130]? = some (.cells #[(.slice A0_0 l0_0.length c0_0), (.slice A0_1 l0_1.length c0_1)] 43 (0, 0))) ∧ Aside0 (w'.heap[gb131]? = some (.cells #[(.slice A1_0 l1_0.length c1_0), (.slice A1_1 l1_1.length c1_1)] 43 (0, 0))) ∧ Aside0 (Below w.heap.size w w'))
        case atStart => exact ⟨(0), (by first | rfl | (simp; done) | (simp [*]; done)), H', ⟨Nat.le_refl _⟩, ⟨by refine bk (h := ?_); exact BK130.out⟩, ⟨by refine bk (h := ?_); exact BK131.out⟩, ⟨bw⟩⟩
        case round =>
          clear H'
          try clear c1
          try clear p2
          try clear c6
          try clear c6b0
          try clear c6b1
          try clear c6b2
          try clear c7
          try clear c10
          try clear c13
          try clear z11_0 z11_1 y11_0 y11_1
          try clear z12_0 z12_1 y12_0 y12_1
          try clear z8_0 z8_1 y8_0 y8_1
          try clear z9_0 z9_1 y9_0 y9_1
          try clear p2
          obtain ⟨x5_2, rfl, HA, HK2, BK130, BK131, HB⟩ := hrel
          cases gk with
          | zero => exact absurd HA.out (by simp [spec_SameRun.l0])
          | succ k2 =>
            have H := HA.out
            clear HA
            simp only [spec_SameRun.l0] at H
            by_cases c14 : x5_2 < (l0_0.length : Int)
            · rw [if_pos c14] at H
              have c14b0 : decide (x5_2 < (l0_0.length : Int)) = true := decide_eq_true c14
              clear c14
              by_cases c15 : 0 ≤ x5_2
              · rw [if_pos c15] at H
                have c15b0 : decide (0 ≤ x5_2) = true := decide_eq_true c15
                clear c15
                by_cases c16 : x5_2 < (l1_0.length : Int)
                · rw [if_pos c16] at H
                  have c16b0 : decide (x5_2 < (l1_0.length : Int)) = true := decide_eq_true c16
                  clear c16
                  replace H := Option.bind_eq_some_iff.mp H
                  obtain ⟨t134, A170, H⟩ := H
                  replace H : (if t134 = true then (spec_SameRun.l0 k2 (wrap64 (x5_2 + 1)) l0_0 l0_1 l1_0 l1_1) else (some false)) = some r := H
                  have A17 := Aside0.mk A170
                  clear A170
                  by_cases c18 : t134 = true
                  · subst c18
                    rw [if_pos rfl] at H
                    have H' := Aside0.mk H
                    clear H
                    have hnb19 := NB130_131.out
                    have hnc19 := NB131_130.out
                    obtain ⟨z20_0, z20_1, y20_0, y20_1⟩ := bq2 BK130
                    try go_wp2
                    replace BK130 := Aside0.mk (blk_drew BK130.out)
                    replace BK131 := Aside0.mk (blk_drew BK131.out)
                    replace HB := Aside0.mk (below_drew1 HB.out)
                    have p132 : 0 ≤ (x5_2 : Int) := od
                    have q132 : x5_2 < (l0_0.length : Int) := od
                    obtain ⟨ad132, A132_0, c132_0, A132_1, c132_1, A132_2, c132_2, e132, hx132_0, hx132_1, hx132_2, hl132_0, hi132_0, hl132_1, hi132_1, hl132_2, hi132_2⟩ := at_T65 HR0_0.out x5_2 p132 q132
                    have hw132_2 := hx132_2
                    have hw132_1 := hx132_1
                    have hw132_0 := hx132_0
                    cases e132
                    replace hx132_0 := bc hx132_0
                    replace hx132_1 := bc hx132_1
                    replace hx132_2 := bc hx132_2
                    have HR132_0 := Aside0.mk hi132_0
                    have HC132_0 := Aside0.mk hl132_0
                    clear hi132_0 hl132_0
                    have HR132_1 := Aside0.mk hi132_1
                    have HC132_1 := Aside0.mk hl132_1
                    clear hi132_1 hl132_1
                    have HR132_2 := Aside0.mk hi132_2
                    have HC132_2 := Aside0.mk hl132_2
                    clear hi132_2 hl132_2
                    replace p132 := eq_true p132
                    replace q132 := eq_true q132
                    have p133 : 0 ≤ (x5_2 : Int) := od
                    have q133 : x5_2 < (l1_0.length : Int) := od
                    obtain ⟨ad133, A133_0, c133_0, A133_1, c133_1, A133_2, c133_2, e133, hx133_0, hx133_1, hx133_2, hl133_0, hi133_0, hl133_1, hi133_1, hl133_2, hi133_2⟩ := at_T65 HR1_0.out x5_2 p133 q133
                    have hw133_2 := hx133_2
                    have hw133_1 := hx133_1
                    have hw133_0 := hx133_0
                    cases e133
                    replace hx133_0 := bc hx133_0
                    replace hx133_1 := bc hx133_1
                    replace hx133_2 := bc hx133_2
                    have HR133_0 := Aside0.mk hi133_0
                    have HC133_0 := Aside0.mk hl133_0
                    clear hi133_0 hl133_0
                    have HR133_1 := Aside0.mk hi133_1
                    have HC133_1 := Aside0.mk hl133_1
                    clear hi133_1 hl133_1
                    have HR133_2 := Aside0.mk hi133_2
                    have HC133_2 := Aside0.mk hl133_2
                    clear hi133_2 hl133_2
                    replace p133 := eq_true p133
                    replace q133 := eq_true q133
                    refine start_ (n := 12) (S := fun w' => w'.cell? ⟨gb130, 0, none⟩ = some (.slice (some ad132) l0_0.length c0_0) ∧ w'.cell? ⟨gb130, 1, none⟩ = some (.slice A0_1 l0_1.length c0_1) ∧ w'.cell? ⟨gb131, 0, none⟩ = some (.slice (some ad133) l1_0.length c1_0) ∧ w'.cell? ⟨gb131, 1, none⟩ = some (.slice A1_1 l1_1.length c1_1) ∧ w'.cell? (ad132.add ((x5_2).toNat * 3)) = some (.slice A132_0 ((rd_T65 l0_0 x5_2).f0).length c132_0) ∧ w'.cell? ⟨(ad132.add ((x5_2).toNat * 3)).block, (ad132.add ((x5_2).toNat * 3)).off + 1, none⟩ = some (.slice A132_1 ((rd_T65 l0_0 x5_2).f1).length c132_1) ∧ w'.cell? ⟨(ad132.add ((x5_2).toNat * 3)).block, (ad132.add ((x5_2).toNat * 3)).off + 2, none⟩ = some (.slice A132_2 ((rd_T65 l0_0 x5_2).f2).length c132_2) ∧ w'.cell? (ad133.add ((x5_2).toNat * 3)) = some (.slice A133_0 ((rd_T65 l1_0 x5_2).f0).length c133_0) ∧ w'.cell? ⟨(ad133.add ((x5_2).toNat * 3)).block, (ad133.add ((x5_2).toNat * 3)).off + 1, none⟩ = some (.slice A133_1 ((rd_T65 l1_0 x5_2).f1).length c133_1) ∧ w'.cell? ⟨(ad133.add ((x5_2).toNat * 3)).block, (ad133.add ((x5_2).toNat * 3)).off + 2, none⟩ = some (.slice A133_2 ((rd_T65 l1_0 x5_2).f2).length c133_2)) (ds := []) #[false, false, false, false, false, false, false, false, false, false, false, false] (by kernel_rfl) rfl rfl ⟨(blk_cell BK130.out 0).trans rfl, (blk_cell BK130.out 1).trans rfl, (blk_cell BK131.out 0).trans rfl, (blk_cell BK131.out 1).trans rfl, (bc hw132_0), (bc hw132_1), (bc hw132_2), (bc hw133_0), (bc hw133_1), (bc hw133_2)⟩ (fun hHeld => ?_); refine with_tabW spec_SameRun.tab6 spec_SameRun.bits6 (fun HT_ HW_ => ?_)
                    generalize wr.drew = w21 at BK130 BK131 HB HR132_0 HR132_1 HR132_2 HR133_0 HR133_1 HR133_2 hx132_0 hx132_1 hx132_2 hx133_0 hx133_1 hx133_2 hHeld ⊢
                    refine pure_ (i := 0) (N := some 30) (v := ?_) (a' := ?_) #[true, false, false, false, false, false, false, false, false, false, false, false] rfl rfl (any_of HT_.out (by kernel_rfl)) (fun _ _ _ h => h) (Or.inl ⟨by rfl, ?_⟩) ?_ ?_
                    rotate_left
                    · intro w'
                      go_simp
                      with_reducible rfl
                    rotate_left
                    · simp only [Act.put, List.setIfInBounds_toArray, List.set_cons_zero, List.set_cons_succ, i64_w, i32_w]
                      rfl
                    refine pure_ (i := 2) (N := some 32) (v := ?_) (a' := ?_) #[true, false, true, false, false, false, false, false, false, false, false, false] rfl rfl (any_of HT_.out (by kernel_rfl)) (fun _ _ _ h => h) (Or.inl ⟨by rfl, ?_⟩) ?_ ?_
                    rotate_left
                    · intro w'
                      go_simp
                      with_reducible rfl
                    rotate_left
                    · simp only [Act.put, List.setIfInBounds_toArray, List.set_cons_zero, List.set_cons_succ, i64_w, i32_w]
                      rfl
                    refine pure_ (i := 5) (N := some 35) (v := ?_) (a' := ?_) #[true, false, true, false, false, true, false, false, false, false, false, false] rfl rfl (any_of HT_.out (by kernel_rfl)) (fun _ _ _ h => h) (Or.inl ⟨by rfl, ?_⟩) ?_ ?_
                    rotate_left
                    · intro w'
                      go_simp
                      with_reducible rfl
                    rotate_left
                    · simp only [Act.put, List.setIfInBounds_toArray, List.set_cons_zero, List.set_cons_succ, i64_w, i32_w]
                      rfl
                    refine pure_ (i := 7) (N := some 37) (v := ?_) (a' := ?_) #[true, false, true, false, false, true, false, true, false, false, false, false] rfl rfl (any_of HT_.out (by kernel_rfl)) (fun _ _ _ h => h) (Or.inl ⟨by rfl, ?_⟩) ?_ ?_
                    rotate_left
                    · intro w'
                      go_simp
                      with_reducible rfl
                    rotate_left
                    · simp only [Act.put, List.setIfInBounds_toArray, List.set_cons_zero, List.set_cons_succ, i64_w, i32_w]
                      rfl
                    refine take_ (i := 1) (N := some 31) (v := ?_) (a' := ?_) #[true, true, true, false, false, true, false, true, false, false, false, false] rfl rfl (take_ofW HT_.out HW_.out (by kernel_rfl)) (fun _ _ _ h => h) (Or.inl ⟨by rfl, ?_⟩) hHeld ?_ ?_
                    rotate_left
                    · rintro w' ⟨s0, s1, s2, s3, s4, s5, s6, s7, s8, s9⟩
                      go_simp
                      with_reducible rfl
                    rotate_left
                    · simp only [Act.put, List.setIfInBounds_toArray, List.set_cons_zero, List.set_cons_succ, i64_w, i32_w]
                      rfl
                    refine pure_ (i := 3) (N := some 33) (v := ?_) (a' := ?_) #[true, true, true, true, false, true, false, true, false, false, false, false] rfl rfl (any_of HT_.out (by kernel_rfl)) (fun _ _ _ h => h) (Or.inl ⟨by rfl, ?_⟩) ?_ ?_
                    rotate_left
                    · intro w'
                      go_simp
                      with_reducible rfl
                    rotate_left
                    · simp only [Act.put, List.setIfInBounds_toArray, List.set_cons_zero, List.set_cons_succ, i64_w, i32_w]
                      rfl
                    refine take_ (i := 4) (N := some 34) (v := ?_) (a' := ?_) #[true, true, true, true, true, true, false, true, false, false, false, false] rfl rfl (take_ofW HT_.out HW_.out (by kernel_rfl)) (fun _ _ _ h => h) (Or.inl ⟨by rfl, ?_⟩) hHeld ?_ ?_
                    rotate_left
                    · rintro w' ⟨s0, s1, s2, s3, s4, s5, s6, s7, s8, s9⟩
                      go_simp
                      with_reducible rfl
                    rotate_left
                    · simp only [Act.put, List.setIfInBounds_toArray, List.set_cons_zero, List.set_cons_succ, i64_w, i32_w]
                      rfl
                    refine take_ (i := 6) (N := some 36) (v := ?_) (a' := ?_) #[true, true, true, true, true, true, true, true, false, false, false, false] rfl rfl (take_ofW HT_.out HW_.out (by kernel_rfl)) (fun _ _ _ h => h) (Or.inl ⟨by rfl, ?_⟩) hHeld ?_ ?_
                    rotate_left
                    · rintro w' ⟨s0, s1, s2, s3, s4, s5, s6, s7, s8, s9⟩
                      go_simp
                      with_reducible rfl
                    rotate_left
                    · simp only [Act.put, List.setIfInBounds_toArray, List.set_cons_zero, List.set_cons_succ, i64_w, i32_w]
                      rfl
                    refine pure_ (i := 8) (N := some 38) (v := ?_) (a' := ?_) #[true, true, true, true, true, true, true, true, true, false, false, false] rfl rfl (any_of HT_.out (by kernel_rfl)) (fun _ _ _ h => h) (Or.inl ⟨by rfl, ?_⟩) ?_ ?_
                    rotate_left
                    · intro w'
                      go_simp
                      with_reducible rfl
                    rotate_left
                    · simp only [Act.put, List.setIfInBounds_toArray, List.set_cons_zero, List.set_cons_succ, i64_w, i32_w]
                      rfl
                    refine take_ (i := 9) (N := some 39) (v := ?_) (a' := ?_) #[true, true, true, true, true, true, true, true, true, true, false, false] rfl rfl (take_ofW HT_.out HW_.out (by kernel_rfl)) (fun _ _ _ h => h) (Or.inl ⟨by rfl, ?_⟩) hHeld ?_ ?_
                    rotate_left
                    · rintro w' ⟨s0, s1, s2, s3, s4, s5, s6, s7, s8, s9⟩
                      go_simp
                      with_reducible rfl
                    rotate_left
                    · simp only [Act.put, List.setIfInBounds_toArray, List.set_cons_zero, List.set_cons_succ, i64_w, i32_w]
                      rfl
                    refine one_ (i := 10) (N := some 40) #[true, true, true, true, true, true, true, true, true, true, true, false] rfl rfl (one_of HT_.out (by kernel_rfl)) (by decide) (fun K hK => ?_)
                    refine goes_ Try.func65 (by kernel_rfl) rfl #[.agg #[.slice _ ((rd_T65 l0_0 x5_2).f0).length c132_0, .slice _ ((rd_T65 l0_0 x5_2).f1).length c132_1, .slice _ ((rd_T65 l0_0 x5_2).f2).length c132_2], .agg #[.slice _ ((rd_T65 l1_0 x5_2).f0).length c133_0, .slice _ ((rd_T65 l1_0 x5_2).f1).length c133_1, .slice _ ((rd_T65 l1_0 x5_2).f2).length c133_2]] (by rfl) rfl rfl (by (try simp only [List.map_toArray, List.map_cons, List.map_nil]); first | done | rfl | (simp only [List.length_drop, List.length_take]; rfl)) ?_
                    with_reducible refine (spec_SameState.calls k2 _ _ ((rd_T65 l0_0 x5_2).f0) _ _ ((rd_T65 l0_0 x5_2).f1) _ _ ((rd_T65 l0_0 x5_2).f2) _ _ ((rd_T65 l1_0 x5_2).f0) _ _ ((rd_T65 l1_0 x5_2).f1) _ _ ((rd_T65 l1_0 x5_2).f2) true _ ?side1 ?side2 ?side3 ?side4 ?side5 ?side6 ?side7 ?side8 ?side9 ?side10 ?side11 ?side12 A17.out).mono ?_
                    (case side1 => exact sd HR132_0)
                    (case side2 => exact HC132_0.out)
                    (case side3 => exact sd HR132_1)
                    (case side4 => exact HC132_1.out)
                    (case side5 => exact sd HR132_2)
                    (case side6 => exact HC132_2.out)
                    (case side7 => exact sd HR133_0)
                    (case side8 => exact HC133_0.out)
                    (case side9 => exact sd HR133_1)
                    (case side10 => exact HC133_1.out)
                    (case side11 => exact sd HR133_2)
                    (case side12 => exact HC133_2.out)
                    rintro e w22 ⟨rfl, hb⟩
                    refine ⟨_, rfl, ?_⟩
                    replace BK130 := bb BK130 hb
                    replace BK131 := bb BK131 hb
                    replace HB := bs hb
                    (try clear hb)
                    (try clear hb2)
                    (try clear hk)
                    (try clear hi)
                    refine hK.out _ _ ⟨(blk_cell BK130.out 0).trans rfl, (blk_cell BK130.out 1).trans rfl, (blk_cell BK131.out 0).trans rfl, (blk_cell BK131.out 1).trans rfl, (bc hw132_0), (bc hw132_1), (bc hw132_2), (bc hw133_0), (bc hw133_1), (bc hw133_2)⟩ (fun hHeld => ?_)
                    clear hK K
                    refine norm_ (a' := ?_) ?_ ?_
                    rotate_left
                    · show Act.put _ (some 40) _ = _
                      simp only [Act.put, List.setIfInBounds_toArray, List.set_cons_zero, List.set_cons_succ, i64_w, i32_w]
                      rfl
                    refine pure_ (i := 11) (N := some 41) (v := ?_) (a' := ?_) #[true, true, true, true, true, true, true, true, true, true, true, true] rfl rfl (any_of HT_.out (by kernel_rfl)) (fun _ _ _ h => h) (Or.inl ⟨by rfl, ?_⟩) ?_ ?_
                    rotate_left
                    · intro w'
                      go_simp
                      with_reducible rfl
                    rotate_left
                    · simp only [Act.put, List.setIfInBounds_toArray, List.set_cons_zero, List.set_cons_succ, i64_w, i32_w]
                      rfl
                    refine done_ (done_of HT_.out (by kernel_rfl)) ?_
                    try go_wp2
                    go_roundg k2
                    case measure => have := HJ2.out; have := HK2.out; omega
                    case rel => exact ⟨(wrap64 (x5_2 + 1)), (by first | rfl | (simp; done) | (simp [*]; done)), H', ⟨by have := HJ2.out; have := HK2.out; omega⟩, ⟨by refine bk (h := ?_); exact BK130.out⟩, ⟨by refine bk (h := ?_); exact BK131.out⟩, ⟨bw⟩⟩
                  · replace c18 := Bool.eq_false_iff.mpr c18
                    subst c18
                    rw [if_neg nf] at H
                    obtain rfl := Option.some.inj H
                    have hnb23 := NB130_131.out
                    have hnc23 := NB131_130.out
                    obtain ⟨z24_0, z24_1, y24_0, y24_1⟩ := bq2 BK130
                    try go_wp2
                    replace BK130 := Aside0.mk (blk_drew BK130.out)
                    replace BK131 := Aside0.mk (blk_drew BK131.out)
                    replace HB := Aside0.mk (below_drew1 HB.out)
                    have p132 : 0 ≤ (x5_2 : Int) := od
                    have q132 : x5_2 < (l0_0.length : Int) := od
                    obtain ⟨ad132, A132_0, c132_0, A132_1, c132_1, A132_2, c132_2, e132, hx132_0, hx132_1, hx132_2, hl132_0, hi132_0, hl132_1, hi132_1, hl132_2, hi132_2⟩ := at_T65 HR0_0.out x5_2 p132 q132
                    have hw132_2 := hx132_2
                    have hw132_1 := hx132_1
                    have hw132_0 := hx132_0
                    cases e132
                    replace hx132_0 := bc hx132_0
                    replace hx132_1 := bc hx132_1
                    replace hx132_2 := bc hx132_2
                    have HR132_0 := Aside0.mk hi132_0
                    have HC132_0 := Aside0.mk hl132_0
                    clear hi132_0 hl132_0
                    have HR132_1 := Aside0.mk hi132_1
                    have HC132_1 := Aside0.mk hl132_1
                    clear hi132_1 hl132_1
                    have HR132_2 := Aside0.mk hi132_2
                    have HC132_2 := Aside0.mk hl132_2
                    clear hi132_2 hl132_2
                    replace p132 := eq_true p132
                    replace q132 := eq_true q132
                    have p133 : 0 ≤ (x5_2 : Int) := od
                    have q133 : x5_2 < (l1_0.length : Int) := od
                    obtain ⟨ad133, A133_0, c133_0, A133_1, c133_1, A133_2, c133_2, e133, hx133_0, hx133_1, hx133_2, hl133_0, hi133_0, hl133_1, hi133_1, hl133_2, hi133_2⟩ := at_T65 HR1_0.out x5_2 p133 q133
                    have hw133_2 := hx133_2
                    have hw133_1 := hx133_1
                    have hw133_0 := hx133_0
                    cases e133
                    replace hx133_0 := bc hx133_0
                    replace hx133_1 := bc hx133_1
                    replace hx133_2 := bc hx133_2
                    have HR133_0 := Aside0.mk hi133_0
                    have HC133_0 := Aside0.mk hl133_0
                    clear hi133_0 hl133_0
                    have HR133_1 := Aside0.mk hi133_1
                    have HC133_1 := Aside0.mk hl133_1
                    clear hi133_1 hl133_1
                    have HR133_2 := Aside0.mk hi133_2
                    have HC133_2 := Aside0.mk hl133_2
                    clear hi133_2 hl133_2
                    replace p133 := eq_true p133
                    replace q133 := eq_true q133
                    refine start_ (n := 12) (S := fun w' => w'.cell? ⟨gb130, 0, none⟩ = some (.slice (some ad132) l0_0.length c0_0) ∧ w'.cell? ⟨gb130, 1, none⟩ = some (.slice A0_1 l0_1.length c0_1) ∧ w'.cell? ⟨gb131, 0, none⟩ = some (.slice (some ad133) l1_0.length c1_0) ∧ w'.cell? ⟨gb131, 1, none⟩ = some (.slice A1_1 l1_1.length c1_1) ∧ w'.cell? (ad132.add ((x5_2).toNat * 3)) = some (.slice A132_0 ((rd_T65 l0_0 x5_2).f0).length c132_0) ∧ w'.cell? ⟨(ad132.add ((x5_2).toNat * 3)).block, (ad132.add ((x5_2).toNat * 3)).off + 1, none⟩ = some (.slice A132_1 ((rd_T65 l0_0 x5_2).f1).length c132_1) ∧ w'.cell? ⟨(ad132.add ((x5_2).toNat * 3)).block, (ad132.add ((x5_2).toNat * 3)).off + 2, none⟩ = some (.slice A132_2 ((rd_T65 l0_0 x5_2).f2).length c132_2) ∧ w'.cell? (ad133.add ((x5_2).toNat * 3)) = some (.slice A133_0 ((rd_T65 l1_0 x5_2).f0).length c133_0) ∧ w'.cell? ⟨(ad133.add ((x5_2).toNat * 3)).block, (ad133.add ((x5_2).toNat * 3)).off + 1, none⟩ = some (.slice A133_1 ((rd_T65 l1_0 x5_2).f1).length c133_1) ∧ w'.cell? ⟨(ad133.add ((x5_2).toNat * 3)).block, (ad133.add ((x5_2).toNat * 3)).off + 2, none⟩ = some (.slice A133_2 ((rd_T65 l1_0 x5_2).f2).length c133_2)) (ds := []) #[false, false, false, false, false, false, false, false, false, false, false, false] (by kernel_rfl) rfl rfl ⟨(blk_cell BK130.out 0).trans rfl, (blk_cell BK130.out 1).trans rfl, (blk_cell BK131.out 0).trans rfl, (blk_cell BK131.out 1).trans rfl, (bc hw132_0), (bc hw132_1), (bc hw132_2), (bc hw133_0), (bc hw133_1), (bc hw133_2)⟩ (fun hHeld => ?_); refine with_tabW spec_SameRun.tab6 spec_SameRun.bits6 (fun HT_ HW_ => ?_)
                    generalize wr.drew = w25 at BK130 BK131 HB HR132_0 HR132_1 HR132_2 HR133_0 HR133_1 HR133_2 hx132_0 hx132_1 hx132_2 hx133_0 hx133_1 hx133_2 hHeld ⊢
                    refine pure_ (i := 0) (N := some 30) (v := ?_) (a' := ?_) #[true, false, false, false, false, false, false, false, false, false, false, false] rfl rfl (any_of HT_.out (by kernel_rfl)) (fun _ _ _ h => h) (Or.inl ⟨by rfl, ?_⟩) ?_ ?_
                    rotate_left
                    · intro w'
                      go_simp
                      with_reducible rfl
                    rotate_left
                    · simp only [Act.put, List.setIfInBounds_toArray, List.set_cons_zero, List.set_cons_succ, i64_w, i32_w]
                      rfl
                    refine pure_ (i := 2) (N := some 32) (v := ?_) (a' := ?_) #[true, false, true, false, false, false, false, false, false, false, false, false] rfl rfl (any_of HT_.out (by kernel_rfl)) (fun _ _ _ h => h) (Or.inl ⟨by rfl, ?_⟩) ?_ ?_
                    rotate_left
                    · intro w'
                      go_simp
                      with_reducible rfl
                    rotate_left
                    · simp only [Act.put, List.setIfInBounds_toArray, List.set_cons_zero, List.set_cons_succ, i64_w, i32_w]
                      rfl
                    refine pure_ (i := 5) (N := some 35) (v := ?_) (a' := ?_) #[true, false, true, false, false, true, false, false, false, false, false, false] rfl rfl (any_of HT_.out (by kernel_rfl)) (fun _ _ _ h => h) (Or.inl ⟨by rfl, ?_⟩) ?_ ?_
                    rotate_left
                    · intro w'
                      go_simp
                      with_reducible rfl
                    rotate_left
                    · simp only [Act.put, List.setIfInBounds_toArray, List.set_cons_zero, List.set_cons_succ, i64_w, i32_w]
                      rfl
                    refine pure_ (i := 7) (N := some 37) (v := ?_) (a' := ?_) #[true, false, true, false, false, true, false, true, false, false, false, false] rfl rfl (any_of HT_.out (by kernel_rfl)) (fun _ _ _ h => h) (Or.inl ⟨by rfl, ?_⟩) ?_ ?_
                    rotate_left
                    · intro w'
                      go_simp
                      with_reducible rfl
                    rotate_left
                    · simp only [Act.put, List.setIfInBounds_toArray, List.set_cons_zero, List.set_cons_succ, i64_w, i32_w]
                      rfl
                    refine take_ (i := 1) (N := some 31) (v := ?_) (a' := ?_) #[true, true, true, false, false, true, false, true, false, false, false, false] rfl rfl (take_ofW HT_.out HW_.out (by kernel_rfl)) (fun _ _ _ h => h) (Or.inl ⟨by rfl, ?_⟩) hHeld ?_ ?_
                    rotate_left
                    · rintro w' ⟨s0, s1, s2, s3, s4, s5, s6, s7, s8, s9⟩
                      go_simp
                      with_reducible rfl
                    rotate_left
                    · simp only [Act.put, List.setIfInBounds_toArray, List.set_cons_zero, List.set_cons_succ, i64_w, i32_w]
                      rfl
                    refine pure_ (i := 3) (N := some 33) (v := ?_) (a' := ?_) #[true, true, true, true, false, true, false, true, false, false, false, false] rfl rfl (any_of HT_.out (by kernel_rfl)) (fun _ _ _ h => h) (Or.inl ⟨by rfl, ?_⟩) ?_ ?_
                    rotate_left
                    · intro w'
                      go_simp
                      with_reducible rfl
                    rotate_left
                    · simp only [Act.put, List.setIfInBounds_toArray, List.set_cons_zero, List.set_cons_succ, i64_w, i32_w]
                      rfl
                    refine take_ (i := 4) (N := some 34) (v := ?_) (a' := ?_) #[true, true, true, true, true, true, false, true, false, false, false, false] rfl rfl (take_ofW HT_.out HW_.out (by kernel_rfl)) (fun _ _ _ h => h) (Or.inl ⟨by rfl, ?_⟩) hHeld ?_ ?_
                    rotate_left
                    · rintro w' ⟨s0, s1, s2, s3, s4, s5, s6, s7, s8, s9⟩
                      go_simp
                      with_reducible rfl
                    rotate_left
                    · simp only [Act.put, List.setIfInBounds_toArray, List.set_cons_zero, List.set_cons_succ, i64_w, i32_w]
                      rfl
                    refine take_ (i := 6) (N := some 36) (v := ?_) (a' := ?_) #[true, true, true, true, true, true, true, true, false, false, false, false] rfl rfl (take_ofW HT_.out HW_.out (by kernel_rfl)) (fun _ _ _ h => h) (Or.inl ⟨by rfl, ?_⟩) hHeld ?_ ?_
                    rotate_left
                    · rintro w' ⟨s0, s1, s2, s3, s4, s5, s6, s7, s8, s9⟩
                      go_simp
                      with_reducible rfl
                    rotate_left
                    · simp only [Act.put, List.setIfInBounds_toArray, List.set_cons_zero, List.set_cons_succ, i64_w, i32_w]
                      rfl
                    refine pure_ (i := 8) (N := some 38) (v := ?_) (a' := ?_) #[true, true, true, true, true, true, true, true, true, false, false, false] rfl rfl (any_of HT_.out (by kernel_rfl)) (fun _ _ _ h => h) (Or.inl ⟨by rfl, ?_⟩) ?_ ?_
                    rotate_left
                    · intro w'
                      go_simp
                      with_reducible rfl
                    rotate_left
                    · simp only [Act.put, List.setIfInBounds_toArray, List.set_cons_zero, List.set_cons_succ, i64_w, i32_w]
                      rfl
                    refine take_ (i := 9) (N := some 39) (v := ?_) (a' := ?_) #[true, true, true, true, true, true, true, true, true, true, false, false] rfl rfl (take_ofW HT_.out HW_.out (by kernel_rfl)) (fun _ _ _ h => h) (Or.inl ⟨by rfl, ?_⟩) hHeld ?_ ?_
                    rotate_left
                    · rintro w' ⟨s0, s1, s2, s3, s4, s5, s6, s7, s8, s9⟩
                      go_simp
                      with_reducible rfl
                    rotate_left
                    · simp only [Act.put, List.setIfInBounds_toArray, List.set_cons_zero, List.set_cons_succ, i64_w, i32_w]
                      rfl
                    refine one_ (i := 10) (N := some 40) #[true, true, true, true, true, true, true, true, true, true, true, false] rfl rfl (one_of HT_.out (by kernel_rfl)) (by decide) (fun K hK => ?_)
                    refine goes_ Try.func65 (by kernel_rfl) rfl #[.agg #[.slice _ ((rd_T65 l0_0 x5_2).f0).length c132_0, .slice _ ((rd_T65 l0_0 x5_2).f1).length c132_1, .slice _ ((rd_T65 l0_0 x5_2).f2).length c132_2], .agg #[.slice _ ((rd_T65 l1_0 x5_2).f0).length c133_0, .slice _ ((rd_T65 l1_0 x5_2).f1).length c133_1, .slice _ ((rd_T65 l1_0 x5_2).f2).length c133_2]] (by rfl) rfl rfl (by (try simp only [List.map_toArray, List.map_cons, List.map_nil]); first | done | rfl | (simp only [List.length_drop, List.length_take]; rfl)) ?_
                    with_reducible refine (spec_SameState.calls k2 _ _ ((rd_T65 l0_0 x5_2).f0) _ _ ((rd_T65 l0_0 x5_2).f1) _ _ ((rd_T65 l0_0 x5_2).f2) _ _ ((rd_T65 l1_0 x5_2).f0) _ _ ((rd_T65 l1_0 x5_2).f1) _ _ ((rd_T65 l1_0 x5_2).f2) false _ ?side1 ?side2 ?side3 ?side4 ?side5 ?side6 ?side7 ?side8 ?side9 ?side10 ?side11 ?side12 A17.out).mono ?_
                    (case side1 => exact sd HR132_0)
                    (case side2 => exact HC132_0.out)
                    (case side3 => exact sd HR132_1)
                    (case side4 => exact HC132_1.out)
                    (case side5 => exact sd HR132_2)
                    (case side6 => exact HC132_2.out)
                    (case side7 => exact sd HR133_0)
                    (case side8 => exact HC133_0.out)
                    (case side9 => exact sd HR133_1)
                    (case side10 => exact HC133_1.out)
                    (case side11 => exact sd HR133_2)
                    (case side12 => exact HC133_2.out)
                    rintro e w26 ⟨rfl, hb⟩
                    refine ⟨_, rfl, ?_⟩
                    replace BK130 := bb BK130 hb
                    replace BK131 := bb BK131 hb
                    replace HB := bs hb
                    (try clear hb)
                    (try clear hb2)
                    (try clear hk)
                    (try clear hi)
                    refine hK.out _ _ ⟨(blk_cell BK130.out 0).trans rfl, (blk_cell BK130.out 1).trans rfl, (blk_cell BK131.out 0).trans rfl, (blk_cell BK131.out 1).trans rfl, (bc hw132_0), (bc hw132_1), (bc hw132_2), (bc hw133_0), (bc hw133_1), (bc hw133_2)⟩ (fun hHeld => ?_)
                    clear hK K
                    refine norm_ (a' := ?_) ?_ ?_
                    rotate_left
                    · show Act.put _ (some 40) _ = _
                      simp only [Act.put, List.setIfInBounds_toArray, List.set_cons_zero, List.set_cons_succ, i64_w, i32_w]
                      rfl
                    refine pure_ (i := 11) (N := some 41) (v := ?_) (a' := ?_) #[true, true, true, true, true, true, true, true, true, true, true, true] rfl rfl (any_of HT_.out (by kernel_rfl)) (fun _ _ _ h => h) (Or.inl ⟨by rfl, ?_⟩) ?_ ?_
                    rotate_left
                    · intro w'
                      go_simp
                      with_reducible rfl
                    rotate_left
                    · simp only [Act.put, List.setIfInBounds_toArray, List.set_cons_zero, List.set_cons_succ, i64_w, i32_w]
                      rfl
                    refine done_ (done_of HT_.out (by kernel_rfl)) ?_
                    try go_wp2
                    go_ret
                    exact ⟨er, bw⟩
                · rw [if_neg c16] at H
                  exact absurd H (by simp)
              · rw [if_neg c15] at H
                exact absurd H (by simp)
            · rw [if_neg c14] at H
              have c14b0 : decide (x5_2 < (l0_0.length : Int)) = false := decide_eq_false c14
              clear c14
              have H' := Aside0.mk H
              clear H
              have hnb27 := NB130_131.out
              have hnc27 := NB131_130.out
              obtain ⟨z28_0, z28_1, y28_0, y28_1⟩ := bq2 BK130
              go_wp2
              go_loopg [6] k2 (fun kq v6 w' => ∃ (x6_3 : Int), v6 = .int .i64 x6_3 ∧ Aside0 (spec_SameRun.l1 kq x6_3 l0_0 l0_1 l1_0 l1_1 = some r) ∧ Aside0 (kq ≤ k2) ∧ Aside0 (w'.heap[gb130]? = some (.cells #[(.slice A0_0 l0_0.length c0_0), (.slice A0_1 l0_1.length c0_1)] 43 (0, 0))) ∧ Aside0 (w'.heap[gb131]? = some (.cells #[(.slice A1_0 l1_0.length c1_0), (.slice A1_1 l1_1.length c1_1)] 43 (0, 0))) ∧ Aside0 (Below w.heap.size w w'))
              case atStart => exact ⟨(0), (by first | rfl | (simp; done) | (simp [*]; done)), H', ⟨Nat.le_refl _⟩, ⟨by refine bk (h := ?_); exact BK130.out⟩, ⟨by refine bk (h := ?_); exact BK131.out⟩, ⟨bw⟩⟩
              case round =>
                clear H'
                try clear c1
                try clear p1
                try clear q1
                try clear hx1
                try clear c2
                try clear p2
                try clear c6
                try clear c6b0
                try clear c6b1
                try clear c6b2
                try clear p6
                try clear c7
                try clear c10
                try clear c13
                try clear p13
                try clear q13
                try clear hx13
                try clear c14
                try clear c14b0
                try clear c15
                try clear c15b0
                try clear c16
                try clear c16b0
                try clear c18
                try clear c19
                try clear c23
                try clear c27
                try clear z11_0 z11_1 y11_0 y11_1
                try clear z12_0 z12_1 y12_0 y12_1
                try clear z20_0 z20_1 y20_0 y20_1
                try clear z24_0 z24_1 y24_0 y24_1
                try clear z28_0 z28_1 y28_0 y28_1
                try clear z8_0 z8_1 y8_0 y8_1
                try clear z9_0 z9_1 y9_0 y9_1
                try clear hx132_0
                try clear hx132_1
                try clear hx132_2
                try clear hx133_0
                try clear hx133_1
                try clear hx133_2
                try clear p132
                try clear p133
                try clear p2
                try clear q132
                try clear q133
                obtain ⟨x6_3, rfl, HA, HK3, BK130, BK131, HB⟩ := hrel
                cases gk with
                | zero => exact absurd HA.out (by simp [spec_SameRun.l1])
                | succ k3 =>
                  have H := HA.out
                  clear HA
                  simp only [spec_SameRun.l1] at H
                  by_cases c29 : x6_3 < (l0_1.length : Int)
                  · rw [if_pos c29] at H
                    have c29b0 : decide (x6_3 < (l0_1.length : Int)) = true := decide_eq_true c29
                    clear c29
                    by_cases c30 : 0 ≤ x6_3
                    · rw [if_pos c30] at H
                      have c30b0 : decide (0 ≤ x6_3) = true := decide_eq_true c30
                      clear c30
                      by_cases c31 : x6_3 < (l1_1.length : Int)
                      · rw [if_pos c31] at H
                        have c31b0 : decide (x6_3 < (l1_1.length : Int)) = true := decide_eq_true c31
                        clear c31
                        by_cases c32 : (!((((rd_T98 l0_1 x6_3).f0).toList) == (((rd_T98 l1_1 x6_3).f0).toList)) || ((!(((rd_T98 l0_1 x6_3).f1.f0) == ((rd_T98 l1_1 x6_3).f1.f0)) || ((!(((rd_T98 l0_1 x6_3).f1.f1.f0) == ((rd_T98 l1_1 x6_3).f1.f1.f0)) || (!(((rd_T98 l0_1 x6_3).f1.f1.f1) == ((rd_T98 l1_1 x6_3).f1.f1.f1)) || (!(((rd_T98 l0_1 x6_3).f1.f1.f2) == ((rd_T98 l1_1 x6_3).f1.f1.f2))))))))) = true
                        · rw [if_pos c32] at H
                          have c32b0 : (!((((rd_T98 l0_1 x6_3).f0).toList) == (((rd_T98 l1_1 x6_3).f0).toList)) || ((!(((rd_T98 l0_1 x6_3).f1.f0) == ((rd_T98 l1_1 x6_3).f1.f0)) || ((!(((rd_T98 l0_1 x6_3).f1.f1.f0) == ((rd_T98 l1_1 x6_3).f1.f1.f0)) || (!(((rd_T98 l0_1 x6_3).f1.f1.f1) == ((rd_T98 l1_1 x6_3).f1.f1.f1)) || (!(((rd_T98 l0_1 x6_3).f1.f1.f2) == ((rd_T98 l1_1 x6_3).f1.f1.f2))))))))) = true := c32
                          clear c32
                          obtain rfl := Option.some.inj H
                          have hnb33 := NB130_131.out
                          have hnc33 := NB131_130.out
                          obtain ⟨z34_0, z34_1, y34_0, y34_1⟩ := bq2 BK130
                          try go_wp2
                          replace BK130 := Aside0.mk (blk_drew BK130.out)
                          replace BK131 := Aside0.mk (blk_drew BK131.out)
                          replace HB := Aside0.mk (below_drew1 HB.out)
                          have p135 : 0 ≤ (x6_3 : Int) := od
                          have q135 : x6_3 < (l0_1.length : Int) := od
                          obtain ⟨ad135, e135, hx135_0, hx135_1, hx135_2, hx135_3, hx135_4⟩ := at_T98 HR0_1.out x6_3 p135 q135
                          have hw135_4 := hx135_4
                          have hw135_3 := hx135_3
                          have hw135_2 := hx135_2
                          have hw135_1 := hx135_1
                          have hw135_0 := hx135_0
                          cases e135
                          replace hx135_0 := bc hx135_0
                          replace hx135_1 := bc hx135_1
                          replace hx135_2 := bc hx135_2
                          replace hx135_3 := bc hx135_3
                          replace hx135_4 := bc hx135_4
                          replace p135 := eq_true p135
                          replace q135 := eq_true q135
                          have p136 : 0 ≤ (x6_3 : Int) := od
                          have q136 : x6_3 < (l1_1.length : Int) := od
                          obtain ⟨ad136, e136, hx136_0, hx136_1, hx136_2, hx136_3, hx136_4⟩ := at_T98 HR1_1.out x6_3 p136 q136
                          have hw136_4 := hx136_4
                          have hw136_3 := hx136_3
                          have hw136_2 := hx136_2
                          have hw136_1 := hx136_1
                          have hw136_0 := hx136_0
                          cases e136
                          replace hx136_0 := bc hx136_0
                          replace hx136_1 := bc hx136_1
                          replace hx136_2 := bc hx136_2
                          replace hx136_3 := bc hx136_3
                          replace hx136_4 := bc hx136_4
                          replace p136 := eq_true p136
                          replace q136 := eq_true q136
                          refine start_ (n := 11) (S := fun w' => w'.cell? ⟨gb130, 0, none⟩ = some (.slice A0_0 l0_0.length c0_0) ∧ w'.cell? ⟨gb130, 1, none⟩ = some (.slice (some ad135) l0_1.length c0_1) ∧ w'.cell? ⟨gb131, 0, none⟩ = some (.slice A1_0 l1_0.length c1_0) ∧ w'.cell? ⟨gb131, 1, none⟩ = some (.slice (some ad136) l1_1.length c1_1) ∧ w'.cell? (ad135.add ((x6_3).toNat * 5)) = some (.string ((rd_T98 l0_1 x6_3).f0)) ∧ w'.cell? ⟨(ad135.add ((x6_3).toNat * 5)).block, (ad135.add ((x6_3).toNat * 5)).off + 1, none⟩ = some (.int .i64 ((rd_T98 l0_1 x6_3).f1.f0)) ∧ w'.cell? ⟨(ad135.add ((x6_3).toNat * 5)).block, (ad135.add ((x6_3).toNat * 5)).off + 2, none⟩ = some (.int .i64 ((rd_T98 l0_1 x6_3).f1.f1.f0)) ∧ w'.cell? ⟨(ad135.add ((x6_3).toNat * 5)).block, (ad135.add ((x6_3).toNat * 5)).off + 3, none⟩ = some (.int .i64 ((rd_T98 l0_1 x6_3).f1.f1.f1)) ∧ w'.cell? ⟨(ad135.add ((x6_3).toNat * 5)).block, (ad135.add ((x6_3).toNat * 5)).off + 4, none⟩ = some (.int .i64 ((rd_T98 l0_1 x6_3).f1.f1.f2)) ∧ w'.cell? (ad136.add ((x6_3).toNat * 5)) = some (.string ((rd_T98 l1_1 x6_3).f0)) ∧ w'.cell? ⟨(ad136.add ((x6_3).toNat * 5)).block, (ad136.add ((x6_3).toNat * 5)).off + 1, none⟩ = some (.int .i64 ((rd_T98 l1_1 x6_3).f1.f0)) ∧ w'.cell? ⟨(ad136.add ((x6_3).toNat * 5)).block, (ad136.add ((x6_3).toNat * 5)).off + 2, none⟩ = some (.int .i64 ((rd_T98 l1_1 x6_3).f1.f1.f0)) ∧ w'.cell? ⟨(ad136.add ((x6_3).toNat * 5)).block, (ad136.add ((x6_3).toNat * 5)).off + 3, none⟩ = some (.int .i64 ((rd_T98 l1_1 x6_3).f1.f1.f1)) ∧ w'.cell? ⟨(ad136.add ((x6_3).toNat * 5)).block, (ad136.add ((x6_3).toNat * 5)).off + 4, none⟩ = some (.int .i64 ((rd_T98 l1_1 x6_3).f1.f1.f2))) (ds := []) #[false, false, false, false, false, false, false, false, false, false, false] (by kernel_rfl) rfl rfl ⟨(blk_cell BK130.out 0).trans rfl, (blk_cell BK130.out 1).trans rfl, (blk_cell BK131.out 0).trans rfl, (blk_cell BK131.out 1).trans rfl, (bc hw135_0), (bc hw135_1), (bc hw135_2), (bc hw135_3), (bc hw135_4), (bc hw136_0), (bc hw136_1), (bc hw136_2), (bc hw136_3), (bc hw136_4)⟩ (fun hHeld => ?_); refine with_tabW spec_SameRun.tab11 spec_SameRun.bits11 (fun HT_ HW_ => ?_)
                          generalize wr.drew = w35 at BK130 BK131 HB hx135_0 hx135_1 hx135_2 hx135_3 hx135_4 hx136_0 hx136_1 hx136_2 hx136_3 hx136_4 hHeld ⊢
                          refine pure_ (i := 0) (N := some 49) (v := ?_) (a' := ?_) #[true, false, false, false, false, false, false, false, false, false, false] rfl rfl (any_of HT_.out (by kernel_rfl)) (fun _ _ _ h => h) (Or.inl ⟨by rfl, ?_⟩) ?_ ?_
                          rotate_left
                          · intro w'
                            go_simp
                            with_reducible rfl
                          rotate_left
                          · simp only [Act.put, List.setIfInBounds_toArray, List.set_cons_zero, List.set_cons_succ, i64_w, i32_w]
                            rfl
                          refine pure_ (i := 2) (N := some 51) (v := ?_) (a' := ?_) #[true, false, true, false, false, false, false, false, false, false, false] rfl rfl (any_of HT_.out (by kernel_rfl)) (fun _ _ _ h => h) (Or.inl ⟨by rfl, ?_⟩) ?_ ?_
                          rotate_left
                          · intro w'
                            go_simp
                            with_reducible rfl
                          rotate_left
                          · simp only [Act.put, List.setIfInBounds_toArray, List.set_cons_zero, List.set_cons_succ, i64_w, i32_w]
                            rfl
                          refine pure_ (i := 5) (N := some 54) (v := ?_) (a' := ?_) #[true, false, true, false, false, true, false, false, false, false, false] rfl rfl (any_of HT_.out (by kernel_rfl)) (fun _ _ _ h => h) (Or.inl ⟨by rfl, ?_⟩) ?_ ?_
                          rotate_left
                          · intro w'
                            go_simp
                            with_reducible rfl
                          rotate_left
                          · simp only [Act.put, List.setIfInBounds_toArray, List.set_cons_zero, List.set_cons_succ, i64_w, i32_w]
                            rfl
                          refine pure_ (i := 7) (N := some 56) (v := ?_) (a' := ?_) #[true, false, true, false, false, true, false, true, false, false, false] rfl rfl (any_of HT_.out (by kernel_rfl)) (fun _ _ _ h => h) (Or.inl ⟨by rfl, ?_⟩) ?_ ?_
                          rotate_left
                          · intro w'
                            go_simp
                            with_reducible rfl
                          rotate_left
                          · simp only [Act.put, List.setIfInBounds_toArray, List.set_cons_zero, List.set_cons_succ, i64_w, i32_w]
                            rfl
                          refine take_ (i := 1) (N := some 50) (v := ?_) (a' := ?_) #[true, true, true, false, false, true, false, true, false, false, false] rfl rfl (take_ofW HT_.out HW_.out (by kernel_rfl)) (fun _ _ _ h => h) (Or.inl ⟨by rfl, ?_⟩) hHeld ?_ ?_
                          rotate_left
                          · rintro w' ⟨s0, s1, s2, s3, s4, s5, s6, s7, s8, s9, s10, s11, s12, s13⟩
                            go_simp
                            with_reducible rfl
                          rotate_left
                          · simp only [Act.put, List.setIfInBounds_toArray, List.set_cons_zero, List.set_cons_succ, i64_w, i32_w]
                            rfl
                          refine pure_ (i := 3) (N := some 52) (v := ?_) (a' := ?_) #[true, true, true, true, false, true, false, true, false, false, false] rfl rfl (any_of HT_.out (by kernel_rfl)) (fun _ _ _ h => h) (Or.inl ⟨by rfl, ?_⟩) ?_ ?_
                          rotate_left
                          · intro w'
                            go_simp
                            with_reducible rfl
                          rotate_left
                          · simp only [Act.put, List.setIfInBounds_toArray, List.set_cons_zero, List.set_cons_succ, i64_w, i32_w]
                            rfl
                          refine take_ (i := 4) (N := some 53) (v := ?_) (a' := ?_) #[true, true, true, true, true, true, false, true, false, false, false] rfl rfl (take_ofW HT_.out HW_.out (by kernel_rfl)) (fun _ _ _ h => h) (Or.inl ⟨by rfl, ?_⟩) hHeld ?_ ?_
                          rotate_left
                          · rintro w' ⟨s0, s1, s2, s3, s4, s5, s6, s7, s8, s9, s10, s11, s12, s13⟩
                            go_simp
                            with_reducible rfl
                          rotate_left
                          · simp only [Act.put, List.setIfInBounds_toArray, List.set_cons_zero, List.set_cons_succ, i64_w, i32_w]
                            rfl
                          refine take_ (i := 6) (N := some 55) (v := ?_) (a' := ?_) #[true, true, true, true, true, true, true, true, false, false, false] rfl rfl (take_ofW HT_.out HW_.out (by kernel_rfl)) (fun _ _ _ h => h) (Or.inl ⟨by rfl, ?_⟩) hHeld ?_ ?_
                          rotate_left
                          · rintro w' ⟨s0, s1, s2, s3, s4, s5, s6, s7, s8, s9, s10, s11, s12, s13⟩
                            go_simp
                            with_reducible rfl
                          rotate_left
                          · simp only [Act.put, List.setIfInBounds_toArray, List.set_cons_zero, List.set_cons_succ, i64_w, i32_w]
                            rfl
                          refine pure_ (i := 8) (N := some 57) (v := ?_) (a' := ?_) #[true, true, true, true, true, true, true, true, true, false, false] rfl rfl (any_of HT_.out (by kernel_rfl)) (fun _ _ _ h => h) (Or.inl ⟨by rfl, ?_⟩) ?_ ?_
                          rotate_left
                          · intro w'
                            go_simp
                            with_reducible rfl
                          rotate_left
                          · simp only [Act.put, List.setIfInBounds_toArray, List.set_cons_zero, List.set_cons_succ, i64_w, i32_w]
                            rfl
                          refine take_ (i := 9) (N := some 58) (v := ?_) (a' := ?_) #[true, true, true, true, true, true, true, true, true, true, false] rfl rfl (take_ofW HT_.out HW_.out (by kernel_rfl)) (fun _ _ _ h => h) (Or.inl ⟨by rfl, ?_⟩) hHeld ?_ ?_
                          rotate_left
                          · rintro w' ⟨s0, s1, s2, s3, s4, s5, s6, s7, s8, s9, s10, s11, s12, s13⟩
                            go_simp
                            with_reducible rfl
                          rotate_left
                          · simp only [Act.put, List.setIfInBounds_toArray, List.set_cons_zero, List.set_cons_succ, i64_w, i32_w]
                            rfl
                          refine pure_ (i := 10) (N := some 59) (v := ?_) (a' := ?_) #[true, true, true, true, true, true, true, true, true, true, true] rfl rfl (any_of HT_.out (by kernel_rfl)) (fun _ _ _ h => h) (Or.inl ⟨by rfl, ?_⟩) ?_ ?_
                          rotate_left
                          · intro w'
                            go_simp
                            with_reducible rfl
                          rotate_left
                          · simp only [Act.put, List.setIfInBounds_toArray, List.set_cons_zero, List.set_cons_succ, i64_w, i32_w]
                            rfl
                          refine done_ (done_of HT_.out (by kernel_rfl)) ?_
                          try go_wp2
                          go_ret
                          exact ⟨er, bw⟩
                        · rw [if_neg c32] at H
                          have c32b0 : (!((((rd_T98 l0_1 x6_3).f0).toList) == (((rd_T98 l1_1 x6_3).f0).toList)) || ((!(((rd_T98 l0_1 x6_3).f1.f0) == ((rd_T98 l1_1 x6_3).f1.f0)) || ((!(((rd_T98 l0_1 x6_3).f1.f1.f0) == ((rd_T98 l1_1 x6_3).f1.f1.f0)) || (!(((rd_T98 l0_1 x6_3).f1.f1.f1) == ((rd_T98 l1_1 x6_3).f1.f1.f1)) || (!(((rd_T98 l0_1 x6_3).f1.f1.f2) == ((rd_T98 l1_1 x6_3).f1.f1.f2))))))))) = false := by simpa using c32
                          clear c32
                          have H' := Aside0.mk H
                          clear H
                          have hnb36 := NB130_131.out
                          have hnc36 := NB131_130.out
                          obtain ⟨z37_0, z37_1, y37_0, y37_1⟩ := bq2 BK130
                          try go_wp2
                          replace BK130 := Aside0.mk (blk_drew BK130.out)
                          replace BK131 := Aside0.mk (blk_drew BK131.out)
                          replace HB := Aside0.mk (below_drew1 HB.out)
                          have p135 : 0 ≤ (x6_3 : Int) := od
                          have q135 : x6_3 < (l0_1.length : Int) := od
                          obtain ⟨ad135, e135, hx135_0, hx135_1, hx135_2, hx135_3, hx135_4⟩ := at_T98 HR0_1.out x6_3 p135 q135
                          have hw135_4 := hx135_4
                          have hw135_3 := hx135_3
                          have hw135_2 := hx135_2
                          have hw135_1 := hx135_1
                          have hw135_0 := hx135_0
                          cases e135
                          replace hx135_0 := bc hx135_0
                          replace hx135_1 := bc hx135_1
                          replace hx135_2 := bc hx135_2
                          replace hx135_3 := bc hx135_3
                          replace hx135_4 := bc hx135_4
                          replace p135 := eq_true p135
                          replace q135 := eq_true q135
                          have p136 : 0 ≤ (x6_3 : Int) := od
                          have q136 : x6_3 < (l1_1.length : Int) := od
                          obtain ⟨ad136, e136, hx136_0, hx136_1, hx136_2, hx136_3, hx136_4⟩ := at_T98 HR1_1.out x6_3 p136 q136
                          have hw136_4 := hx136_4
                          have hw136_3 := hx136_3
                          have hw136_2 := hx136_2
                          have hw136_1 := hx136_1
                          have hw136_0 := hx136_0
                          cases e136
                          replace hx136_0 := bc hx136_0
                          replace hx136_1 := bc hx136_1
                          replace hx136_2 := bc hx136_2
                          replace hx136_3 := bc hx136_3
                          replace hx136_4 := bc hx136_4
                          replace p136 := eq_true p136
                          replace q136 := eq_true q136
                          refine start_ (n := 11) (S := fun w' => w'.cell? ⟨gb130, 0, none⟩ = some (.slice A0_0 l0_0.length c0_0) ∧ w'.cell? ⟨gb130, 1, none⟩ = some (.slice (some ad135) l0_1.length c0_1) ∧ w'.cell? ⟨gb131, 0, none⟩ = some (.slice A1_0 l1_0.length c1_0) ∧ w'.cell? ⟨gb131, 1, none⟩ = some (.slice (some ad136) l1_1.length c1_1) ∧ w'.cell? (ad135.add ((x6_3).toNat * 5)) = some (.string ((rd_T98 l0_1 x6_3).f0)) ∧ w'.cell? ⟨(ad135.add ((x6_3).toNat * 5)).block, (ad135.add ((x6_3).toNat * 5)).off + 1, none⟩ = some (.int .i64 ((rd_T98 l0_1 x6_3).f1.f0)) ∧ w'.cell? ⟨(ad135.add ((x6_3).toNat * 5)).block, (ad135.add ((x6_3).toNat * 5)).off + 2, none⟩ = some (.int .i64 ((rd_T98 l0_1 x6_3).f1.f1.f0)) ∧ w'.cell? ⟨(ad135.add ((x6_3).toNat * 5)).block, (ad135.add ((x6_3).toNat * 5)).off + 3, none⟩ = some (.int .i64 ((rd_T98 l0_1 x6_3).f1.f1.f1)) ∧ w'.cell? ⟨(ad135.add ((x6_3).toNat * 5)).block, (ad135.add ((x6_3).toNat * 5)).off + 4, none⟩ = some (.int .i64 ((rd_T98 l0_1 x6_3).f1.f1.f2)) ∧ w'.cell? (ad136.add ((x6_3).toNat * 5)) = some (.string ((rd_T98 l1_1 x6_3).f0)) ∧ w'.cell? ⟨(ad136.add ((x6_3).toNat * 5)).block, (ad136.add ((x6_3).toNat * 5)).off + 1, none⟩ = some (.int .i64 ((rd_T98 l1_1 x6_3).f1.f0)) ∧ w'.cell? ⟨(ad136.add ((x6_3).toNat * 5)).block, (ad136.add ((x6_3).toNat * 5)).off + 2, none⟩ = some (.int .i64 ((rd_T98 l1_1 x6_3).f1.f1.f0)) ∧ w'.cell? ⟨(ad136.add ((x6_3).toNat * 5)).block, (ad136.add ((x6_3).toNat * 5)).off + 3, none⟩ = some (.int .i64 ((rd_T98 l1_1 x6_3).f1.f1.f1)) ∧ w'.cell? ⟨(ad136.add ((x6_3).toNat * 5)).block, (ad136.add ((x6_3).toNat * 5)).off + 4, none⟩ = some (.int .i64 ((rd_T98 l1_1 x6_3).f1.f1.f2))) (ds := []) #[false, false, false, false, false, false, false, false, false, false, false] (by kernel_rfl) rfl rfl ⟨(blk_cell BK130.out 0).trans rfl, (blk_cell BK130.out 1).trans rfl, (blk_cell BK131.out 0).trans rfl, (blk_cell BK131.out 1).trans rfl, (bc hw135_0), (bc hw135_1), (bc hw135_2), (bc hw135_3), (bc hw135_4), (bc hw136_0), (bc hw136_1), (bc hw136_2), (bc hw136_3), (bc hw136_4)⟩ (fun hHeld => ?_); refine with_tabW spec_SameRun.tab11 spec_SameRun.bits11 (fun HT_ HW_ => ?_)
                          generalize wr.drew = w38 at BK130 BK131 HB hx135_0 hx135_1 hx135_2 hx135_3 hx135_4 hx136_0 hx136_1 hx136_2 hx136_3 hx136_4 hHeld ⊢
                          refine pure_ (i := 0) (N := some 49) (v := ?_) (a' := ?_) #[true, false, false, false, false, false, false, false, false, false, false] rfl rfl (any_of HT_.out (by kernel_rfl)) (fun _ _ _ h => h) (Or.inl ⟨by rfl, ?_⟩) ?_ ?_
                          rotate_left
                          · intro w'
                            go_simp
                            with_reducible rfl
                          rotate_left
                          · simp only [Act.put, List.setIfInBounds_toArray, List.set_cons_zero, List.set_cons_succ, i64_w, i32_w]
                            rfl
                          refine pure_ (i := 2) (N := some 51) (v := ?_) (a' := ?_) #[true, false, true, false, false, false, false, false, false, false, false] rfl rfl (any_of HT_.out (by kernel_rfl)) (fun _ _ _ h => h) (Or.inl ⟨by rfl, ?_⟩) ?_ ?_
                          rotate_left
                          · intro w'
                            go_simp
                            with_reducible rfl
                          rotate_left
                          · simp only [Act.put, List.setIfInBounds_toArray, List.set_cons_zero, List.set_cons_succ, i64_w, i32_w]
                            rfl
                          refine pure_ (i := 5) (N := some 54) (v := ?_) (a' := ?_) #[true, false, true, false, false, true, false, false, false, false, false] rfl rfl (any_of HT_.out (by kernel_rfl)) (fun _ _ _ h => h) (Or.inl ⟨by rfl, ?_⟩) ?_ ?_
                          rotate_left
                          · intro w'
                            go_simp
                            with_reducible rfl
                          rotate_left
                          · simp only [Act.put, List.setIfInBounds_toArray, List.set_cons_zero, List.set_cons_succ, i64_w, i32_w]
                            rfl
                          refine pure_ (i := 7) (N := some 56) (v := ?_) (a' := ?_) #[true, false, true, false, false, true, false, true, false, false, false] rfl rfl (any_of HT_.out (by kernel_rfl)) (fun _ _ _ h => h) (Or.inl ⟨by rfl, ?_⟩) ?_ ?_
                          rotate_left
                          · intro w'
                            go_simp
                            with_reducible rfl
                          rotate_left
                          · simp only [Act.put, List.setIfInBounds_toArray, List.set_cons_zero, List.set_cons_succ, i64_w, i32_w]
                            rfl
                          refine take_ (i := 1) (N := some 50) (v := ?_) (a' := ?_) #[true, true, true, false, false, true, false, true, false, false, false] rfl rfl (take_ofW HT_.out HW_.out (by kernel_rfl)) (fun _ _ _ h => h) (Or.inl ⟨by rfl, ?_⟩) hHeld ?_ ?_
                          rotate_left
                          · rintro w' ⟨s0, s1, s2, s3, s4, s5, s6, s7, s8, s9, s10, s11, s12, s13⟩
                            go_simp
                            with_reducible rfl
                          rotate_left
                          · simp only [Act.put, List.setIfInBounds_toArray, List.set_cons_zero, List.set_cons_succ, i64_w, i32_w]
                            rfl
                          refine pure_ (i := 3) (N := some 52) (v := ?_) (a' := ?_) #[true, true, true, true, false, true, false, true, false, false, false] rfl rfl (any_of HT_.out (by kernel_rfl)) (fun _ _ _ h => h) (Or.inl ⟨by rfl, ?_⟩) ?_ ?_
                          rotate_left
                          · intro w'
                            go_simp
                            with_reducible rfl
                          rotate_left
                          · simp only [Act.put, List.setIfInBounds_toArray, List.set_cons_zero, List.set_cons_succ, i64_w, i32_w]
                            rfl
                          refine take_ (i := 4) (N := some 53) (v := ?_) (a' := ?_) #[true, true, true, true, true, true, false, true, false, false, false] rfl rfl (take_ofW HT_.out HW_.out (by kernel_rfl)) (fun _ _ _ h => h) (Or.inl ⟨by rfl, ?_⟩) hHeld ?_ ?_
                          rotate_left
                          · rintro w' ⟨s0, s1, s2, s3, s4, s5, s6, s7, s8, s9, s10, s11, s12, s13⟩
                            go_simp
                            with_reducible rfl
                          rotate_left
                          · simp only [Act.put, List.setIfInBounds_toArray, List.set_cons_zero, List.set_cons_succ, i64_w, i32_w]
                            rfl
                          refine take_ (i := 6) (N := some 55) (v := ?_) (a' := ?_) #[true, true, true, true, true, true, true, true, false, false, false] rfl rfl (take_ofW HT_.out HW_.out (by kernel_rfl)) (fun _ _ _ h => h) (Or.inl ⟨by rfl, ?_⟩) hHeld ?_ ?_
                          rotate_left
                          · rintro w' ⟨s0, s1, s2, s3, s4, s5, s6, s7, s8, s9, s10, s11, s12, s13⟩
                            go_simp
                            with_reducible rfl
                          rotate_left
                          · simp only [Act.put, List.setIfInBounds_toArray, List.set_cons_zero, List.set_cons_succ, i64_w, i32_w]
                            rfl
                          refine pure_ (i := 8) (N := some 57) (v := ?_) (a' := ?_) #[true, true, true, true, true, true, true, true, true, false, false] rfl rfl (any_of HT_.out (by kernel_rfl)) (fun _ _ _ h => h) (Or.inl ⟨by rfl, ?_⟩) ?_ ?_
                          rotate_left
                          · intro w'
                            go_simp
                            with_reducible rfl
                          rotate_left
                          · simp only [Act.put, List.setIfInBounds_toArray, List.set_cons_zero, List.set_cons_succ, i64_w, i32_w]
                            rfl
                          refine take_ (i := 9) (N := some 58) (v := ?_) (a' := ?_) #[true, true, true, true, true, true, true, true, true, true, false] rfl rfl (take_ofW HT_.out HW_.out (by kernel_rfl)) (fun _ _ _ h => h) (Or.inl ⟨by rfl, ?_⟩) hHeld ?_ ?_
                          rotate_left
                          · rintro w' ⟨s0, s1, s2, s3, s4, s5, s6, s7, s8, s9, s10, s11, s12, s13⟩
                            go_simp
                            with_reducible rfl
                          rotate_left
                          · simp only [Act.put, List.setIfInBounds_toArray, List.set_cons_zero, List.set_cons_succ, i64_w, i32_w]
                            rfl
                          refine pure_ (i := 10) (N := some 59) (v := ?_) (a' := ?_) #[true, true, true, true, true, true, true, true, true, true, true] rfl rfl (any_of HT_.out (by kernel_rfl)) (fun _ _ _ h => h) (Or.inl ⟨by rfl, ?_⟩) ?_ ?_
                          rotate_left
                          · intro w'
                            go_simp
                            with_reducible rfl
                          rotate_left
                          · simp only [Act.put, List.setIfInBounds_toArray, List.set_cons_zero, List.set_cons_succ, i64_w, i32_w]
                            rfl
                          refine done_ (done_of HT_.out (by kernel_rfl)) ?_
                          try go_wp2
                          go_roundg k3
                          case measure => have := HJ2.out; have := HK2.out; have := HK3.out; omega
                          case rel => exact ⟨(wrap64 (x6_3 + 1)), (by first | rfl | (simp; done) | (simp [*]; done)), H', ⟨by have := HJ2.out; have := HK2.out; have := HK3.out; omega⟩, ⟨by refine bk (h := ?_); exact BK130.out⟩, ⟨by refine bk (h := ?_); exact BK131.out⟩, ⟨bw⟩⟩
                      · rw [if_neg c31] at H
                        exact absurd H (by simp)
                    · rw [if_neg c30] at H
                      exact absurd H (by simp)
                  · rw [if_neg c29] at H
                    have c29b0 : decide (x6_3 < (l0_1.length : Int)) = false := decide_eq_false c29
                    clear c29
                    obtain rfl := Option.some.inj H
                    have hnb39 := NB130_131.out
                    have hnc39 := NB131_130.out
                    obtain ⟨z40_0, z40_1, y40_0, y40_1⟩ := bq2 BK130
                    go_wp2
                    go_ret
                    exact ⟨er, bw⟩

end Go.Proofs.Yteadienaeapaeaa.PC
