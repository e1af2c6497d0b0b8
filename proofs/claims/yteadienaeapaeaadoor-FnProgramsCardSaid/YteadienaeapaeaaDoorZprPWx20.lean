-- Made by a program of this session (myprint.py) out of the translation.
import Derived.Test.YteadienaeapaeaaDoorZprPWx0
import Derived.Test.YteadienaeapaeaaDoorZprPWx5
import Derived.Test.YteadienaeapaeaaDoorZprShort
namespace Go.Proofs.YteadienaeapaeaaDoor.PW
open Go.Proofs.YteadienaeapaeaaDoor.Short
open Go.Proofs.YteadienaeapaeaaDoor.Dyn
open Go.RowKit Go.Proofs.YteadienaeapaeaaDoorW.PrintWords Go.Proofs.YteadienaeapaeaaDoorW.PrintLast Go.Proofs.YteadienaeapaeaaDoorW.PrintMore
attribute [local go_sem] max2_int min2_int max_two min_two max_three min_three max_four min_four   -- for this text's walks alone
set_option linter.unusedVariables false
set_option linter.unusedSimpArgs false

/-! ### spec_l01Low: function 223 -/
mutual
def spec_l01Low.j0 : Nat → Bool → Int → Int → Int → Option (Int × Int × Int)
  | 0, _, _, _, _ => none
  | k + 1, x10, x354000, x354001, x354002 => if x10 = true then (some (0, 0, 0)) else (spec_l01Low.l0 k x354000 x354001 x354002)
def spec_l01Low.l0 : Nat → Int → Int → Int → Option (Int × Int × Int)
  | 0, _, _, _ => none
  | k + 1, x354000, x354001, x354002 => if x354002 > 0 then (if (Int.tmod x354000 2) = 0 then (spec_l01Low.j2 k ((Int.tmod x354001 2) == 0) x354000 x354001 x354002) else (spec_l01Low.j2 k false x354000 x354001 x354002)) else (spec_l01Low.j2 k false x354000 x354001 x354002)
def spec_l01Low.j2 : Nat → Bool → Int → Int → Int → Option (Int × Int × Int)
  | 0, _, _, _, _ => none
  | k + 1, x26, x354000, x354001, x354002 => if x26 = true then (spec_l01Low.l0 k (wrap64 (Int.tdiv x354000 2)) (wrap64 (Int.tdiv x354001 2)) (wrap64 (x354002 - 1))) else (some (x354000, x354001, x354002))
end
def spec_l01Low.f (k : Nat) (a0_0 : Int) (a0_1 : Int) (a0_2 : Int) : Option (Int × Int × Int) := if a0_0 = 0 then (spec_l01Low.j0 k (a0_1 == 0) a0_0 a0_1 a0_2) else (spec_l01Low.j0 k false a0_0 a0_1 a0_2)
theorem spec_l01Low.mono_l : ∀ k, (∀ y0 y1 y2 y3, LeO (spec_l01Low.j0 k y0 y1 y2 y3) (spec_l01Low.j0 (k + 1) y0 y1 y2 y3)) ∧ (∀ y0 y1 y2, LeO (spec_l01Low.l0 k y0 y1 y2) (spec_l01Low.l0 (k + 1) y0 y1 y2)) ∧ (∀ y0 y1 y2 y3, LeO (spec_l01Low.j2 k y0 y1 y2 y3) (spec_l01Low.j2 (k + 1) y0 y1 y2 y3))
  | 0 => ⟨fun _ _ _ _ r h => by simp [spec_l01Low.j0] at h, fun _ _ _ r h => by simp [spec_l01Low.l0] at h, fun _ _ _ _ r h => by simp [spec_l01Low.j2] at h⟩
  | k + 1 => by
    obtain ⟨ih0, ih1, ih2⟩ := spec_l01Low.mono_l k
    refine ⟨?_, ?_, ?_⟩
    · intro y0 y1 y2 y3
      unfold spec_l01Low.j0
      repeat' first
      | (with_reducible exact ih0 _ _ _ _)
      | (with_reducible exact ih1 _ _ _)
      | (with_reducible exact ih2 _ _ _ _)
      | (with_reducible exact LeO.refl _)
      | (with_reducible exact LeO.none _)
      | (with_reducible refine LeO.ite ?_ ?_)
      | (with_reducible refine LeO.bind ?_ (fun _ => ?_))
      | exact ih0 _ _ _ _
      | exact ih1 _ _ _
      | exact ih2 _ _ _ _
      | exact LeO.none _
      | refine LeO.ite ?_ ?_
      | refine LeO.bind ?_ (fun _ => ?_)
    · intro y0 y1 y2
      unfold spec_l01Low.l0
      repeat' first
      | (with_reducible exact ih0 _ _ _ _)
      | (with_reducible exact ih1 _ _ _)
      | (with_reducible exact ih2 _ _ _ _)
      | (with_reducible exact LeO.refl _)
      | (with_reducible exact LeO.none _)
      | (with_reducible refine LeO.ite ?_ ?_)
      | (with_reducible refine LeO.bind ?_ (fun _ => ?_))
      | exact ih0 _ _ _ _
      | exact ih1 _ _ _
      | exact ih2 _ _ _ _
      | exact LeO.none _
      | refine LeO.ite ?_ ?_
      | refine LeO.bind ?_ (fun _ => ?_)
    · intro y0 y1 y2 y3
      unfold spec_l01Low.j2
      repeat' first
      | (with_reducible exact ih0 _ _ _ _)
      | (with_reducible exact ih1 _ _ _)
      | (with_reducible exact ih2 _ _ _ _)
      | (with_reducible exact LeO.refl _)
      | (with_reducible exact LeO.none _)
      | (with_reducible refine LeO.ite ?_ ?_)
      | (with_reducible refine LeO.bind ?_ (fun _ => ?_))
      | exact ih0 _ _ _ _
      | exact ih1 _ _ _
      | exact ih2 _ _ _ _
      | exact LeO.none _
      | refine LeO.ite ?_ ?_
      | refine LeO.bind ?_ (fun _ => ?_)
theorem spec_l01Low.mono : ∀ a0 a1 a2 k, LeO (spec_l01Low.f k a0 a1 a2) (spec_l01Low.f (k + 1) a0 a1 a2) := by
  intro a0 a1 a2 k
  obtain ⟨ih0, ih1, ih2⟩ := spec_l01Low.mono_l k
  unfold spec_l01Low.f
  repeat' first
      | (with_reducible exact ih0 _ _ _ _)
      | (with_reducible exact ih1 _ _ _)
      | (with_reducible exact ih2 _ _ _ _)
      | (with_reducible exact LeO.refl _)
      | (with_reducible exact LeO.none _)
      | (with_reducible refine LeO.ite ?_ ?_)
      | (with_reducible refine LeO.bind ?_ (fun _ => ?_))
      | exact ih0 _ _ _ _
      | exact ih1 _ _ _
      | exact ih2 _ _ _ _
      | exact LeO.none _
      | refine LeO.ite ?_ ?_
      | refine LeO.bind ?_ (fun _ => ?_)
set_option maxHeartbeats 8000000 in
set_option maxRecDepth 100000 in
theorem spec_l01Low.calls (k : Nat) (a0_0 : Int) (a0_1 : Int) (a0_2 : Int) (r1 : Int) (r2 : Int) (r3 : Int) (w : World) (h : spec_l01Low.f k a0_0 a0_1 a0_2 = some (r1, r2, r3)) :
    Calls Tryd.prog 223 #[.agg #[.int .i64 a0_0, .int .i64 a0_1, .int .i64 a0_2]] w fun e w' => e = .returned (.agg #[.int .i64 r1, .int .i64 r2, .int .i64 r3]) ∧ Below w.heap.size w w' := by
  have hu211 := Tryd.underlying211
  have HB := Aside0.mk (Below.refl w.heap.size w)
  have H : (if a0_0 = 0 then (spec_l01Low.j0 k (a0_1 == 0) a0_0 a0_1 a0_2) else (spec_l01Low.j0 k false a0_0 a0_1 a0_2)) = some (r1, r2, r3) := h
  clear h
  have HC2 := Aside0.mk H
  clear H
  go_enter Tryd.func223, Tryd.ntmps223
  go_upto_region 1 with (first | ((with_reducible refine gate_dst (N := 1) rfl ?_); refine bx #[.int .i64 a0_0, .int .i64 a0_1, .int .i64 a0_2] 211 ?_; intro gb353 hg w3 hbox hb; have BK353 := Aside0.mk hbox; have GW353 := bg hg; have GE353 := bg hg; replace HB := bs hb; clear hb hbox hg) | ((with_reducible refine gate_dst (N := 2) rfl ?_); refine bx #[.int .i64 0, .int .i64 0, .int .i64 0] 211 ?_; intro gb354 hg w4 hbox hb; have BK354 := Aside0.mk hbox; have GW354 := bg hg; have GE354 := bg hg; have NB353_354 := bl BK353 hg; have NB354_353 := bv BK353 hg; replace BK353 := bb BK353 hb; replace HB := bs hb; clear hb hbox hg))
  (try simp only [Act.put, List.setIfInBounds_toArray, List.set_cons_zero, List.set_cons_succ])
  go_cut [10] (fun v10 wc => ∃ (kq : Nat) (x10_1 : Bool), v10 = .bool x10_1 ∧ Aside0 (spec_l01Low.j0 kq x10_1 a0_0 a0_1 a0_2 = some (r1, r2, r3)) ∧ Aside0 (kq ≤ k) ∧ Aside0 (wc.heap[gb353]? = some (.cells #[.int .i64 a0_0, .int .i64 a0_1, .int .i64 a0_2] 211 (0, 0))) ∧ Aside0 (wc.heap[gb354]? = some (.cells #[.int .i64 0, .int .i64 0, .int .i64 0] 211 (0, 0))) ∧ Aside0 (Below w.heap.size w wc))
  case first =>
    have H := HC2.out
    clear HC2
    by_cases c5 : a0_0 = 0
    · rw [if_pos c5] at H
      have c5b0 : (a0_0 == 0) = true := beq_iff_eq.mpr c5
      have c5b1 : (a0_0 != 0) = false := bne_eq_false_iff_eq.mpr c5
      clear c5
      (first | rw [c5b0] | (simp only [i64_w, i32_w]; rw [c5b0]) | skip)
      have H' := Aside0.mk H
      clear H
      have hnb6 := NB353_354.out
      have hnc6 := NB354_353.out
      obtain ⟨z7_0, z7_1, z7_2, y7_0, y7_1, y7_2⟩ := bq3 BK353
      go_wp2
      go_meet
      case rel => exact ⟨_, ((a0_1 == 0)), (by first | rfl | (simp; done) | (simp [*]; done)), H', ⟨by first | omega | exact Nat.le_refl _⟩, ⟨by refine bk (h := ?_); exact BK353.out⟩, ⟨by refine bk (h := ?_); exact BK354.out⟩, ⟨bw⟩⟩
    · rw [if_neg c5] at H
      have c5b0 : (a0_0 == 0) = false := beq_eq_false_iff_ne.mpr c5
      have c5b1 : (a0_0 != 0) = true := bne_iff_ne.mpr c5
      (first | rw [c5b0] | (simp only [i64_w, i32_w]; rw [c5b0]) | skip)
      have H' := Aside0.mk H
      clear H
      have hnb8 := NB353_354.out
      have hnc8 := NB354_353.out
      obtain ⟨z9_0, z9_1, z9_2, y9_0, y9_1, y9_2⟩ := bq3 BK353
      go_wp2
      go_meet
      case rel => exact ⟨_, (false), (by first | rfl | (simp; done) | (simp [*]; done)), H', ⟨by first | omega | exact Nat.le_refl _⟩, ⟨by refine bk (h := ?_); exact BK353.out⟩, ⟨by refine bk (h := ?_); exact BK354.out⟩, ⟨bw⟩⟩
  case rest =>
    clear HC2
    try clear c2
    try clear p2
    try clear c5
    try clear c5b0
    try clear c5b1
    try clear c6
    try clear c8
    try clear z7_0 z7_1 z7_2 y7_0 y7_1 y7_2
    try clear z9_0 z9_1 z9_2 y9_0 y9_1 y9_2
    obtain ⟨kq, x10_1, rfl, HA, HJ1, BK353, BK354, HB⟩ := hcut
    cases kq with
    | zero => exact absurd HA.out (by simp [spec_l01Low.j0])
    | succ kj1 =>
      have H := HA.out
      clear HA
      simp only [spec_l01Low.j0] at H
      by_cases c10 : x10_1 = true
      · subst c10
        rw [if_pos rfl] at H
        simp only [Option.some.injEq, Prod.mk.injEq] at H
        obtain ⟨rfl, rfl, rfl⟩ := H
        have hnb11 := NB354_353.out
        have hnc11 := NB353_354.out
        obtain ⟨z12_0, z12_1, z12_2, y12_0, y12_1, y12_2⟩ := bq3 BK354
        go_wp2
        refine bodyPost_ret (results_cell_row rfl _ _ gb354 211 #[.int .i64 0, .int .i64 0, .int .i64 0] (0, 0) _ rfl (by refine bk (h := ?_); refine blk_put (cs := #[.int .i64 0, .int .i64 0, .int .i64 0]) ?_ 2 _ rfl; refine bk (h := ?_); refine blk_put (cs := #[.int .i64 0, .int .i64 0, .int .i64 0]) ?_ 1 _ rfl; refine bk (h := ?_); refine blk_put (cs := #[.int .i64 0, .int .i64 0, .int .i64 0]) ?_ 0 _ rfl; refine bk (h := ?_); exact BK354.out) Tryd.underlying211 rfl (by kernel_rfl)) rfl ?_
        exact ⟨er, bw⟩
      · replace c10 := Bool.eq_false_iff.mpr c10
        subst c10
        rw [if_neg nf] at H
        have H' := Aside0.mk H
        clear H
        go_wp2
        go_loopg [] kj1 (fun kq w' => ∃ (x354000_2 : Int) (x354001_2 : Int) (x354002_2 : Int), Aside0 (spec_l01Low.l0 kq x354000_2 x354001_2 x354002_2 = some (r1, r2, r3)) ∧ Aside0 (kq ≤ kj1) ∧ Aside0 (w'.heap[gb353]? = some (.cells #[.int .i64 x354000_2, .int .i64 x354001_2, .int .i64 x354002_2] 211 (0, 0))) ∧ Aside0 (w'.heap[gb354]? = some (.cells #[.int .i64 0, .int .i64 0, .int .i64 0] 211 (0, 0))) ∧ Aside0 (Below w.heap.size w w'))
        case atStart => exact ⟨(a0_0), (a0_1), (a0_2), H', ⟨Nat.le_refl _⟩, ⟨by refine bk (h := ?_); exact BK353.out⟩, ⟨by refine bk (h := ?_); exact BK354.out⟩, ⟨bw⟩⟩
        case round =>
          clear H'
          try clear c1
          try clear c2
          try clear p2
          try clear c5
          try clear c5b0
          try clear c5b1
          try clear c6
          try clear c8
          try clear c10
          try clear c11
          try clear z12_0 z12_1 z12_2 y12_0 y12_1 y12_2
          try clear z7_0 z7_1 z7_2 y7_0 y7_1 y7_2
          try clear z9_0 z9_1 z9_2 y9_0 y9_1 y9_2
          try clear p2
          obtain ⟨x354000_2, x354001_2, x354002_2, HA, HK2, BK353, BK354, HB⟩ := hrel
          cases gk with
          | zero => exact absurd HA.out (by simp [spec_l01Low.l0])
          | succ k2 =>
            have H := HA.out
            clear HA
            simp only [spec_l01Low.l0] at H
            have HC13 := Aside0.mk H
            clear H
            go_upto_region 3 with (fail)
            go_cut [26] (fun v26 wc => ∃ (kq : Nat) (x26_12 : Bool), v26 = .bool x26_12 ∧ Aside0 (spec_l01Low.j2 kq x26_12 x354000_2 x354001_2 x354002_2 = some (r1, r2, r3)) ∧ Aside0 (kq ≤ k2) ∧ Aside0 (wc.heap[gb353]? = some (.cells #[.int .i64 x354000_2, .int .i64 x354001_2, .int .i64 x354002_2] 211 (0, 0))) ∧ Aside0 (wc.heap[gb354]? = some (.cells #[.int .i64 0, .int .i64 0, .int .i64 0] 211 (0, 0))) ∧ Aside0 (Below w.heap.size w wc))
            case first =>
              have H := HC13.out
              clear HC13
              by_cases c14 : x354002_2 > 0
              · rw [if_pos c14] at H
                have c14b0 : decide (0 < x354002_2) = true := decide_eq_true c14
                clear c14
                (first | rw [c14b0] | (simp only [i64_w, i32_w]; rw [c14b0]) | skip)
                by_cases c15 : (Int.tmod x354000_2 2) = 0
                · rw [if_pos c15] at H
                  have c15b0 : ((Int.tmod x354000_2 2) == 0) = true := beq_iff_eq.mpr c15
                  have c15b1 : ((Int.tmod x354000_2 2) != 0) = false := bne_eq_false_iff_eq.mpr c15
                  clear c15
                  have H' := Aside0.mk H
                  clear H
                  have hnb16 := NB353_354.out
                  have hnc16 := NB354_353.out
                  obtain ⟨z17_0, z17_1, z17_2, y17_0, y17_1, y17_2⟩ := bq3 BK353
                  go_wp2
                  go_meet
                  case rel => exact ⟨_, (((Int.tmod x354001_2 2) == 0)), (by first | rfl | (simp; done) | (simp [*]; done)), H', ⟨by have := HJ1.out; have := HK2.out; first | omega | exact Nat.le_refl _⟩, ⟨by refine bk (h := ?_); exact BK353.out⟩, ⟨by refine bk (h := ?_); exact BK354.out⟩, ⟨bw⟩⟩
                · rw [if_neg c15] at H
                  have c15b0 : ((Int.tmod x354000_2 2) == 0) = false := beq_eq_false_iff_ne.mpr c15
                  have c15b1 : ((Int.tmod x354000_2 2) != 0) = true := bne_iff_ne.mpr c15
                  have H' := Aside0.mk H
                  clear H
                  have hnb18 := NB353_354.out
                  have hnc18 := NB354_353.out
                  obtain ⟨z19_0, z19_1, z19_2, y19_0, y19_1, y19_2⟩ := bq3 BK353
                  go_wp2
                  go_meet
                  case rel => exact ⟨_, (false), (by first | rfl | (simp; done) | (simp [*]; done)), H', ⟨by have := HJ1.out; have := HK2.out; first | omega | exact Nat.le_refl _⟩, ⟨by refine bk (h := ?_); exact BK353.out⟩, ⟨by refine bk (h := ?_); exact BK354.out⟩, ⟨bw⟩⟩
              · rw [if_neg c14] at H
                have c14b0 : decide (0 < x354002_2) = false := decide_eq_false c14
                clear c14
                (first | rw [c14b0] | (simp only [i64_w, i32_w]; rw [c14b0]) | skip)
                have H' := Aside0.mk H
                clear H
                have hnb20 := NB353_354.out
                have hnc20 := NB354_353.out
                obtain ⟨z21_0, z21_1, z21_2, y21_0, y21_1, y21_2⟩ := bq3 BK353
                go_wp2
                go_meet
                case rel => exact ⟨_, (false), (by first | rfl | (simp; done) | (simp [*]; done)), H', ⟨by have := HJ1.out; have := HK2.out; first | omega | exact Nat.le_refl _⟩, ⟨by refine bk (h := ?_); exact BK353.out⟩, ⟨by refine bk (h := ?_); exact BK354.out⟩, ⟨bw⟩⟩
            case rest =>
              clear HC13
              try clear c1
              try clear c2
              try clear p2
              try clear c5
              try clear c5b0
              try clear c5b1
              try clear c6
              try clear c8
              try clear c10
              try clear c11
              try clear c14
              try clear c14b0
              try clear c15
              try clear c15b0
              try clear c15b1
              try clear c16
              try clear c18
              try clear c20
              try clear z12_0 z12_1 z12_2 y12_0 y12_1 y12_2
              try clear z17_0 z17_1 z17_2 y17_0 y17_1 y17_2
              try clear z19_0 z19_1 z19_2 y19_0 y19_1 y19_2
              try clear z21_0 z21_1 z21_2 y21_0 y21_1 y21_2
              try clear z7_0 z7_1 z7_2 y7_0 y7_1 y7_2
              try clear z9_0 z9_1 z9_2 y9_0 y9_1 y9_2
              try clear p2
              obtain ⟨kq, x26_12, rfl, HA, HJ12, BK353, BK354, HB⟩ := hcut
              cases kq with
              | zero => exact absurd HA.out (by simp [spec_l01Low.j2])
              | succ kj12 =>
                have H := HA.out
                clear HA
                simp only [spec_l01Low.j2] at H
                by_cases c22 : x26_12 = true
                · subst c22
                  rw [if_pos rfl] at H
                  have H' := Aside0.mk H
                  clear H
                  have hnb23 := NB353_354.out
                  have hnc23 := NB354_353.out
                  obtain ⟨z24_0, z24_1, z24_2, y24_0, y24_1, y24_2⟩ := bq3 BK353
                  go_wp2
                  go_roundg kj12
                  case measure => have := HJ1.out; have := HK2.out; have := HJ12.out; omega
                  case rel => exact ⟨(wrap64 (Int.tdiv x354000_2 2)), (wrap64 (Int.tdiv x354001_2 2)), (wrap64 (x354002_2 - 1)), H', ⟨by have := HJ1.out; have := HK2.out; have := HJ12.out; omega⟩, ⟨by refine bk (h := ?_); refine blk_put (cs := #[.int .i64 (wrap64 (Int.tdiv x354000_2 2)), .int .i64 (wrap64 (Int.tdiv x354001_2 2)), .int .i64 x354002_2]) ?_ 2 _ rfl; refine bk (h := ?_); refine blk_put (cs := #[.int .i64 (wrap64 (Int.tdiv x354000_2 2)), .int .i64 x354001_2, .int .i64 x354002_2]) ?_ 1 _ rfl; refine bk (h := ?_); refine blk_put (cs := #[.int .i64 x354000_2, .int .i64 x354001_2, .int .i64 x354002_2]) ?_ 0 _ rfl; refine bk (h := ?_); exact BK353.out⟩, ⟨by refine bk (h := ?_); refine blk_far ?_ NB354_353.out _; refine bk (h := ?_); refine blk_far ?_ NB354_353.out _; refine bk (h := ?_); refine blk_far ?_ NB354_353.out _; refine bk (h := ?_); exact BK354.out⟩, ⟨bw⟩⟩
                · replace c22 := Bool.eq_false_iff.mpr c22
                  subst c22
                  rw [if_neg nf] at H
                  simp only [Option.some.injEq, Prod.mk.injEq] at H
                  obtain ⟨rfl, rfl, rfl⟩ := H
                  have hnb25 := NB353_354.out
                  have hnc25 := NB354_353.out
                  obtain ⟨z26_0, z26_1, z26_2, y26_0, y26_1, y26_2⟩ := bq3 BK353
                  obtain ⟨z27_0, z27_1, z27_2, y27_0, y27_1, y27_2⟩ := bq3 BK354
                  go_wp2
                  refine bodyPost_ret (results_cell_row rfl _ _ gb354 211 #[.int .i64 x354000_2, .int .i64 x354001_2, .int .i64 x354002_2] (0, 0) _ rfl (by refine bk (h := ?_); refine blk_put (cs := #[.int .i64 x354000_2, .int .i64 x354001_2, .int .i64 0]) ?_ 2 _ rfl; refine bk (h := ?_); refine blk_put (cs := #[.int .i64 x354000_2, .int .i64 0, .int .i64 0]) ?_ 1 _ rfl; refine bk (h := ?_); refine blk_put (cs := #[.int .i64 0, .int .i64 0, .int .i64 0]) ?_ 0 _ rfl; refine bk (h := ?_); exact BK354.out) Tryd.underlying211 rfl (by kernel_rfl)) rfl ?_
                  exact ⟨er, bw⟩

/-! ### spec_l01Num: function 190 -/
def spec_l01Num.f (k : Nat) (a0_0 : Int) (a0_1 : Int) (a0_2 : Int) : Option (Int × Int × Int × Bool) := (spec_l01Low.f k a0_0 a0_1 a0_2).bind fun bt357 => ((spec_l01Ok.f k bt357.1 bt357.2.1 bt357.2.2).bind fun t361 => (if t361 = true then (some (bt357.1, bt357.2.1, bt357.2.2, true)) else (some (0, 0, 0, false))))
theorem spec_l01Num.mono : ∀ a0 a1 a2 k, LeO (spec_l01Num.f k a0 a1 a2) (spec_l01Num.f (k + 1) a0 a1 a2) := by
  intro a0 a1 a2 k
  unfold spec_l01Num.f
  repeat' first
      | (with_reducible exact spec_l01Low.mono _ _ _ _)
      | (with_reducible exact spec_l01Ok.mono _ _ _ _)
      | (with_reducible exact LeO.refl _)
      | (with_reducible exact LeO.none _)
      | (with_reducible refine LeO.ite ?_ ?_)
      | (with_reducible refine LeO.bind ?_ (fun _ => ?_))
      | exact spec_l01Low.mono _ _ _ _
      | exact spec_l01Ok.mono _ _ _ _
      | exact LeO.none _
      | refine LeO.ite ?_ ?_
      | refine LeO.bind ?_ (fun _ => ?_)
set_option maxHeartbeats 8000000 in
set_option maxRecDepth 100000 in
theorem spec_l01Num.calls (k : Nat) (a0_0 : Int) (a0_1 : Int) (a0_2 : Int) (r1 : Int) (r2 : Int) (r3 : Int) (r4 : Bool) (w : World) (h : spec_l01Num.f k a0_0 a0_1 a0_2 = some (r1, r2, r3, r4)) :
    Calls Tryd.prog 190 #[.agg #[.int .i64 a0_0, .int .i64 a0_1, .int .i64 a0_2]] w fun e w' => e = .returned (.tuple #[.agg #[.int .i64 r1, .int .i64 r2, .int .i64 r3], .bool r4]) ∧ Below w.heap.size w w' := by
  have hu211 := Tryd.underlying211
  have hu30 := Tryd.underlying30
  have HB := Aside0.mk (Below.refl w.heap.size w)
  have H : ((spec_l01Low.f k a0_0 a0_1 a0_2).bind fun bt357 => ((spec_l01Ok.f k bt357.1 bt357.2.1 bt357.2.2).bind fun t361 => (if t361 = true then (some (bt357.1, bt357.2.1, bt357.2.2, true)) else (some (0, 0, 0, false))))) = some (r1, r2, r3, r4) := h
  clear h
  replace H := Option.bind_eq_some_iff.mp H
  obtain ⟨⟨t357, t358, t359⟩, A20, H⟩ := H
  replace H : ((spec_l01Ok.f k t357 t358 t359).bind fun t361 => (if t361 = true then (some (t357, t358, t359, true)) else (some (0, 0, 0, false)))) = some (r1, r2, r3, r4) := H
  have A2 := Aside0.mk A20
  clear A20
  replace H := Option.bind_eq_some_iff.mp H
  obtain ⟨t361, A30, H⟩ := H
  replace H : (if t361 = true then (some (t357, t358, t359, true)) else (some (0, 0, 0, false))) = some (r1, r2, r3, r4) := H
  have A3 := Aside0.mk A30
  clear A30
  by_cases c4 : t361 = true
  · subst c4
    rw [if_pos rfl] at H
    simp only [Option.some.injEq, Prod.mk.injEq] at H
    obtain ⟨rfl, rfl, rfl, rfl⟩ := H
    go_enter Tryd.func190, Tryd.ntmps190
    go_wp2_with (first | ((with_reducible refine gate_dst (N := 1) rfl ?_); refine bx #[.int .i64 a0_0, .int .i64 a0_1, .int .i64 a0_2] 211 ?_; intro gb355 hg w5 hbox hb; have BK355 := Aside0.mk hbox; have GW355 := bg hg; have GE355 := bg hg; replace HB := bs hb; clear hb hbox hg) | ((with_reducible refine gate_dst (N := 2) rfl ?_); refine bx #[.int .i64 0, .int .i64 0, .int .i64 0] 30 ?_; intro gb356 hg w6 hbox hb; have BK356 := Aside0.mk hbox; have GW356 := bg hg; have GE356 := bg hg; have NB355_356 := bl BK355 hg; have NB356_355 := bv BK355 hg; replace BK355 := bb BK355 hb; replace HB := bs hb; clear hb hbox hg; have hnb7 := NB355_356.out; have hnc7 := NB356_355.out; obtain ⟨z8_0, z8_1, z8_2, y8_0, y8_1, y8_2⟩ := bq3 BK355) | ((with_reducible refine gate_callee (f := 223) rfl ?_); refine gl (some 6) Tryd.func223 #[.agg #[.int .i64 a0_0, .int .i64 a0_1, .int .i64 a0_2]] ?_; (with_reducible refine (spec_l01Low.calls k a0_0 a0_1 a0_2 t357 t358 t359 _ A2.out).mono ?_); rintro e w9 ⟨rfl, hb⟩; refine ⟨_, rfl, ?_⟩; replace BK355 := bb BK355 hb; replace BK356 := bb BK356 hb; replace HB := bs hb; (try clear hb); (try clear hb2); (try clear hk); (try clear hi); obtain ⟨z10_0, z10_1, z10_2, y10_0, y10_1, y10_2⟩ := bq3 BK355) | ((with_reducible refine gate_dst (N := 4) rfl ?_); refine bx #[.int .i64 0, .int .i64 0, .int .i64 0] 30 ?_; intro gb360 hg w11 hbox hb; have BK360 := Aside0.mk hbox; have GW360 := bg hg; have GE360 := bg hg; have NB355_360 := Aside0.mk ((by rw [hg]; exact Nat.ne_of_lt (blk_lt (g := gb355) (o := .cells #[.int .i64 t357, .int .i64 t358, .int .i64 t359] 211 (0, 0)) (by refine bk (h := ?_); refine blk_put (cs := #[.int .i64 t357, .int .i64 t358, .int .i64 a0_2]) ?_ 2 _ rfl; refine bk (h := ?_); refine blk_put (cs := #[.int .i64 t357, .int .i64 a0_1, .int .i64 a0_2]) ?_ 1 _ rfl; refine bk (h := ?_); refine blk_put (cs := #[.int .i64 a0_0, .int .i64 a0_1, .int .i64 a0_2]) ?_ 0 _ rfl; refine bk (h := ?_); exact BK355.out)) : gb355 ≠ gb360)); have NB360_355 := Aside0.mk ((by rw [hg]; exact Nat.ne_of_gt (blk_lt (g := gb355) (o := .cells #[.int .i64 t357, .int .i64 t358, .int .i64 t359] 211 (0, 0)) (by refine bk (h := ?_); refine blk_put (cs := #[.int .i64 t357, .int .i64 t358, .int .i64 a0_2]) ?_ 2 _ rfl; refine bk (h := ?_); refine blk_put (cs := #[.int .i64 t357, .int .i64 a0_1, .int .i64 a0_2]) ?_ 1 _ rfl; refine bk (h := ?_); refine blk_put (cs := #[.int .i64 a0_0, .int .i64 a0_1, .int .i64 a0_2]) ?_ 0 _ rfl; refine bk (h := ?_); exact BK355.out)) : gb360 ≠ gb355)); have NB356_360 := Aside0.mk ((by rw [hg]; exact Nat.ne_of_lt (blk_lt (g := gb356) (o := .cells #[.int .i64 0, .int .i64 0, .int .i64 0] 30 (0, 0)) (by refine bk (h := ?_); refine blk_far ?_ NB356_355.out _; refine bk (h := ?_); refine blk_far ?_ NB356_355.out _; refine bk (h := ?_); refine blk_far ?_ NB356_355.out _; refine bk (h := ?_); exact BK356.out)) : gb356 ≠ gb360)); have NB360_356 := Aside0.mk ((by rw [hg]; exact Nat.ne_of_gt (blk_lt (g := gb356) (o := .cells #[.int .i64 0, .int .i64 0, .int .i64 0] 30 (0, 0)) (by refine bk (h := ?_); refine blk_far ?_ NB356_355.out _; refine bk (h := ?_); refine blk_far ?_ NB356_355.out _; refine bk (h := ?_); refine blk_far ?_ NB356_355.out _; refine bk (h := ?_); exact BK356.out)) : gb360 ≠ gb356)); replace BK355 := Aside0.mk (blk_below (g := gb355) (o := .cells #[.int .i64 t357, .int .i64 t358, .int .i64 t359] 211 (0, 0)) (by refine bk (h := ?_); refine blk_put (cs := #[.int .i64 t357, .int .i64 t358, .int .i64 a0_2]) ?_ 2 _ rfl; refine bk (h := ?_); refine blk_put (cs := #[.int .i64 t357, .int .i64 a0_1, .int .i64 a0_2]) ?_ 1 _ rfl; refine bk (h := ?_); refine blk_put (cs := #[.int .i64 a0_0, .int .i64 a0_1, .int .i64 a0_2]) ?_ 0 _ rfl; refine bk (h := ?_); exact BK355.out) hb); replace BK356 := Aside0.mk (blk_below (g := gb356) (o := .cells #[.int .i64 0, .int .i64 0, .int .i64 0] 30 (0, 0)) (by refine bk (h := ?_); refine blk_far ?_ NB356_355.out _; refine bk (h := ?_); refine blk_far ?_ NB356_355.out _; refine bk (h := ?_); refine blk_far ?_ NB356_355.out _; refine bk (h := ?_); exact BK356.out) hb); replace HB := bs hb; clear hb hbox hg; have hnb12 := NB360_355.out; have hnc12 := NB355_360.out; have hnb13 := NB360_356.out; have hnc13 := NB356_360.out; obtain ⟨z14_0, z14_1, z14_2, y14_0, y14_1, y14_2⟩ := bq3 BK360) | ((with_reducible refine gate_callee (f := 134) rfl ?_); refine gl (some 15) Tryd.func134 #[.agg #[.int .i64 t357, .int .i64 t358, .int .i64 t359]] ?_; (with_reducible refine (spec_l01Ok.calls k t357 t358 t359 true _ A3.out).mono ?_); rintro e w15 ⟨rfl, hb⟩; refine ⟨_, rfl, ?_⟩; replace BK355 := Aside0.mk (blk_below (g := gb355) (o := .cells #[.int .i64 t357, .int .i64 t358, .int .i64 t359] 211 (0, 0)) (by refine bk (h := ?_); refine blk_far ?_ NB355_360.out _; refine bk (h := ?_); refine blk_far ?_ NB355_360.out _; refine bk (h := ?_); refine blk_far ?_ NB355_360.out _; refine bk (h := ?_); exact BK355.out) hb); replace BK356 := Aside0.mk (blk_below (g := gb356) (o := .cells #[.int .i64 0, .int .i64 0, .int .i64 0] 30 (0, 0)) (by refine bk (h := ?_); refine blk_far ?_ NB356_360.out _; refine bk (h := ?_); refine blk_far ?_ NB356_360.out _; refine bk (h := ?_); refine blk_far ?_ NB356_360.out _; refine bk (h := ?_); exact BK356.out) hb); replace BK360 := Aside0.mk (blk_below (g := gb360) (o := .cells #[.int .i64 t357, .int .i64 t358, .int .i64 t359] 30 (0, 0)) (by refine bk (h := ?_); refine blk_put (cs := #[.int .i64 t357, .int .i64 t358, .int .i64 0]) ?_ 2 _ rfl; refine bk (h := ?_); refine blk_put (cs := #[.int .i64 t357, .int .i64 0, .int .i64 0]) ?_ 1 _ rfl; refine bk (h := ?_); refine blk_put (cs := #[.int .i64 0, .int .i64 0, .int .i64 0]) ?_ 0 _ rfl; refine bk (h := ?_); exact BK360.out) hb); replace HB := bs hb; (try clear hb); (try clear hb2); (try clear hk); (try clear hi); obtain ⟨z16_0, z16_1, z16_2, y16_0, y16_1, y16_2⟩ := bq3 BK360; obtain ⟨z17_0, z17_1, z17_2, y17_0, y17_1, y17_2⟩ := bq3 BK356))
    refine bodyPost_ret (results_ct rfl _ _ gb356 30 #[.int .i64 t357, .int .i64 t358, .int .i64 t359] (0, 0) _ rfl (by refine bk (h := ?_); refine blk_put (cs := #[.int .i64 t357, .int .i64 t358, .int .i64 0]) ?_ 2 _ rfl; refine bk (h := ?_); refine blk_put (cs := #[.int .i64 t357, .int .i64 0, .int .i64 0]) ?_ 1 _ rfl; refine bk (h := ?_); refine blk_put (cs := #[.int .i64 0, .int .i64 0, .int .i64 0]) ?_ 0 _ rfl; refine bk (h := ?_); exact BK356.out) Tryd.underlying30 rfl (by kernel_rfl)) rfl ?_
    exact ⟨er, bw⟩
  · replace c4 := Bool.eq_false_iff.mpr c4
    subst c4
    rw [if_neg nf] at H
    simp only [Option.some.injEq, Prod.mk.injEq] at H
    obtain ⟨rfl, rfl, rfl, rfl⟩ := H
    go_enter Tryd.func190, Tryd.ntmps190
    go_wp2_with (first | ((with_reducible refine gate_dst (N := 1) rfl ?_); refine bx #[.int .i64 a0_0, .int .i64 a0_1, .int .i64 a0_2] 211 ?_; intro gb355 hg w18 hbox hb; have BK355 := Aside0.mk hbox; have GW355 := bg hg; have GE355 := bg hg; replace HB := bs hb; clear hb hbox hg) | ((with_reducible refine gate_dst (N := 2) rfl ?_); refine bx #[.int .i64 0, .int .i64 0, .int .i64 0] 30 ?_; intro gb356 hg w19 hbox hb; have BK356 := Aside0.mk hbox; have GW356 := bg hg; have GE356 := bg hg; have NB355_356 := bl BK355 hg; have NB356_355 := bv BK355 hg; replace BK355 := bb BK355 hb; replace HB := bs hb; clear hb hbox hg; have hnb20 := NB355_356.out; have hnc20 := NB356_355.out; obtain ⟨z21_0, z21_1, z21_2, y21_0, y21_1, y21_2⟩ := bq3 BK355) | ((with_reducible refine gate_callee (f := 223) rfl ?_); refine gl (some 6) Tryd.func223 #[.agg #[.int .i64 a0_0, .int .i64 a0_1, .int .i64 a0_2]] ?_; (with_reducible refine (spec_l01Low.calls k a0_0 a0_1 a0_2 t357 t358 t359 _ A2.out).mono ?_); rintro e w22 ⟨rfl, hb⟩; refine ⟨_, rfl, ?_⟩; replace BK355 := bb BK355 hb; replace BK356 := bb BK356 hb; replace HB := bs hb; (try clear hb); (try clear hb2); (try clear hk); (try clear hi); obtain ⟨z23_0, z23_1, z23_2, y23_0, y23_1, y23_2⟩ := bq3 BK355) | ((with_reducible refine gate_dst (N := 4) rfl ?_); refine bx #[.int .i64 0, .int .i64 0, .int .i64 0] 30 ?_; intro gb360 hg w24 hbox hb; have BK360 := Aside0.mk hbox; have GW360 := bg hg; have GE360 := bg hg; have NB355_360 := Aside0.mk ((by rw [hg]; exact Nat.ne_of_lt (blk_lt (g := gb355) (o := .cells #[.int .i64 t357, .int .i64 t358, .int .i64 t359] 211 (0, 0)) (by refine bk (h := ?_); refine blk_put (cs := #[.int .i64 t357, .int .i64 t358, .int .i64 a0_2]) ?_ 2 _ rfl; refine bk (h := ?_); refine blk_put (cs := #[.int .i64 t357, .int .i64 a0_1, .int .i64 a0_2]) ?_ 1 _ rfl; refine bk (h := ?_); refine blk_put (cs := #[.int .i64 a0_0, .int .i64 a0_1, .int .i64 a0_2]) ?_ 0 _ rfl; refine bk (h := ?_); exact BK355.out)) : gb355 ≠ gb360)); have NB360_355 := Aside0.mk ((by rw [hg]; exact Nat.ne_of_gt (blk_lt (g := gb355) (o := .cells #[.int .i64 t357, .int .i64 t358, .int .i64 t359] 211 (0, 0)) (by refine bk (h := ?_); refine blk_put (cs := #[.int .i64 t357, .int .i64 t358, .int .i64 a0_2]) ?_ 2 _ rfl; refine bk (h := ?_); refine blk_put (cs := #[.int .i64 t357, .int .i64 a0_1, .int .i64 a0_2]) ?_ 1 _ rfl; refine bk (h := ?_); refine blk_put (cs := #[.int .i64 a0_0, .int .i64 a0_1, .int .i64 a0_2]) ?_ 0 _ rfl; refine bk (h := ?_); exact BK355.out)) : gb360 ≠ gb355)); have NB356_360 := Aside0.mk ((by rw [hg]; exact Nat.ne_of_lt (blk_lt (g := gb356) (o := .cells #[.int .i64 0, .int .i64 0, .int .i64 0] 30 (0, 0)) (by refine bk (h := ?_); refine blk_far ?_ NB356_355.out _; refine bk (h := ?_); refine blk_far ?_ NB356_355.out _; refine bk (h := ?_); refine blk_far ?_ NB356_355.out _; refine bk (h := ?_); exact BK356.out)) : gb356 ≠ gb360)); have NB360_356 := Aside0.mk ((by rw [hg]; exact Nat.ne_of_gt (blk_lt (g := gb356) (o := .cells #[.int .i64 0, .int .i64 0, .int .i64 0] 30 (0, 0)) (by refine bk (h := ?_); refine blk_far ?_ NB356_355.out _; refine bk (h := ?_); refine blk_far ?_ NB356_355.out _; refine bk (h := ?_); refine blk_far ?_ NB356_355.out _; refine bk (h := ?_); exact BK356.out)) : gb360 ≠ gb356)); replace BK355 := Aside0.mk (blk_below (g := gb355) (o := .cells #[.int .i64 t357, .int .i64 t358, .int .i64 t359] 211 (0, 0)) (by refine bk (h := ?_); refine blk_put (cs := #[.int .i64 t357, .int .i64 t358, .int .i64 a0_2]) ?_ 2 _ rfl; refine bk (h := ?_); refine blk_put (cs := #[.int .i64 t357, .int .i64 a0_1, .int .i64 a0_2]) ?_ 1 _ rfl; refine bk (h := ?_); refine blk_put (cs := #[.int .i64 a0_0, .int .i64 a0_1, .int .i64 a0_2]) ?_ 0 _ rfl; refine bk (h := ?_); exact BK355.out) hb); replace BK356 := Aside0.mk (blk_below (g := gb356) (o := .cells #[.int .i64 0, .int .i64 0, .int .i64 0] 30 (0, 0)) (by refine bk (h := ?_); refine blk_far ?_ NB356_355.out _; refine bk (h := ?_); refine blk_far ?_ NB356_355.out _; refine bk (h := ?_); refine blk_far ?_ NB356_355.out _; refine bk (h := ?_); exact BK356.out) hb); replace HB := bs hb; clear hb hbox hg; have hnb25 := NB360_355.out; have hnc25 := NB355_360.out; have hnb26 := NB360_356.out; have hnc26 := NB356_360.out; obtain ⟨z27_0, z27_1, z27_2, y27_0, y27_1, y27_2⟩ := bq3 BK360) | ((with_reducible refine gate_callee (f := 134) rfl ?_); refine gl (some 15) Tryd.func134 #[.agg #[.int .i64 t357, .int .i64 t358, .int .i64 t359]] ?_; (with_reducible refine (spec_l01Ok.calls k t357 t358 t359 false _ A3.out).mono ?_); rintro e w28 ⟨rfl, hb⟩; refine ⟨_, rfl, ?_⟩; replace BK355 := Aside0.mk (blk_below (g := gb355) (o := .cells #[.int .i64 t357, .int .i64 t358, .int .i64 t359] 211 (0, 0)) (by refine bk (h := ?_); refine blk_far ?_ NB355_360.out _; refine bk (h := ?_); refine blk_far ?_ NB355_360.out _; refine bk (h := ?_); refine blk_far ?_ NB355_360.out _; refine bk (h := ?_); exact BK355.out) hb); replace BK356 := Aside0.mk (blk_below (g := gb356) (o := .cells #[.int .i64 0, .int .i64 0, .int .i64 0] 30 (0, 0)) (by refine bk (h := ?_); refine blk_far ?_ NB356_360.out _; refine bk (h := ?_); refine blk_far ?_ NB356_360.out _; refine bk (h := ?_); refine blk_far ?_ NB356_360.out _; refine bk (h := ?_); exact BK356.out) hb); replace BK360 := Aside0.mk (blk_below (g := gb360) (o := .cells #[.int .i64 t357, .int .i64 t358, .int .i64 t359] 30 (0, 0)) (by refine bk (h := ?_); refine blk_put (cs := #[.int .i64 t357, .int .i64 t358, .int .i64 0]) ?_ 2 _ rfl; refine bk (h := ?_); refine blk_put (cs := #[.int .i64 t357, .int .i64 0, .int .i64 0]) ?_ 1 _ rfl; refine bk (h := ?_); refine blk_put (cs := #[.int .i64 0, .int .i64 0, .int .i64 0]) ?_ 0 _ rfl; refine bk (h := ?_); exact BK360.out) hb); replace HB := bs hb; (try clear hb); (try clear hb2); (try clear hk); (try clear hi); obtain ⟨z29_0, z29_1, z29_2, y29_0, y29_1, y29_2⟩ := bq3 BK356))
    refine bodyPost_ret (results_ct rfl _ _ gb356 30 #[.int .i64 0, .int .i64 0, .int .i64 0] (0, 0) _ rfl (by refine bk (h := ?_); refine blk_put (cs := #[.int .i64 0, .int .i64 0, .int .i64 0]) ?_ 2 _ rfl; refine bk (h := ?_); refine blk_put (cs := #[.int .i64 0, .int .i64 0, .int .i64 0]) ?_ 1 _ rfl; refine bk (h := ?_); refine blk_put (cs := #[.int .i64 0, .int .i64 0, .int .i64 0]) ?_ 0 _ rfl; refine bk (h := ?_); exact BK356.out) Tryd.underlying30 rfl (by kernel_rfl)) rfl ?_
    exact ⟨er, bw⟩

end Go.Proofs.YteadienaeapaeaaDoor.PW
