-- Made by a program of this session (myprint.py) out of the translation.
import Derived.Test.YteadienaeapaeaaZsrPCx0
import Derived.Test.YteadienaeapaeaaZsrPCx1
import Derived.Test.YteadienaeapaeaaZsrPCx2
import Derived.Test.YteadienaeapaeaaZsrPCx3
import Derived.Test.YteadienaeapaeaaZsrPCx7
import Derived.Test.YteadienaeapaeaaZsrShort
namespace Go.Proofs.Yteadienaeapaeaa.PC
open Go.Proofs.Yteadienaeapaeaa.Short
open Go.Proofs.Yteadienaeapaeaa.Dyn
open Go.RowKit Go.Proofs.YteadienaeapaeaaW.PrintWords Go.Proofs.YteadienaeapaeaaW.PrintLast Go.Proofs.YteadienaeapaeaaW.PrintMore
attribute [local go_sem] max2_int min2_int max_two min_two max_three min_three max_four min_four   -- for this text's walks alone
set_option linter.unusedVariables false
set_option linter.unusedSimpArgs false

attribute [local go_sem high] eqA98 eqA118 eqA130
/-! ### laws_toMarkS: function 67 -/
def laws_toMarkS.l0 : Nat → List (S167) → List (S98) → Int → Option ((List (S98)))
  | 0, _, _, _ => none
  | k + 1, x0, x3, x4 => if x4 < (x0.length : Int) then (if 0 ≤ x4 then ((laws_toMark.f ((rd_T167 x0 x4).f0) ((rd_T167 x0 x4).f1.f0) ((rd_T167 x0 x4).f1.f1.f0) ((rd_T167 x0 x4).f1.f1.f1) ((rd_T167 x0 x4).f1.f1.f2)).bind fun bt247 => (if x4 < (x3.length : Int) then (laws_toMarkS.l0 k x0 (x3.set (x4 : Int).toNat (⟨bt247.1, (⟨bt247.2.1, (⟨bt247.2.2.1, bt247.2.2.2.1, bt247.2.2.2.2⟩ : S94)⟩ : S96)⟩ : S98)) (wrap64 (x4 + 1))) else (none))) else (none)) else (some x3)
def laws_toMarkS.f (k : Nat) (l0 : List (S167)) : Option ((List (S98))) := if 0 ≤ (l0.length : Int) then (if ((l0.length : Int) : Int).toNat ≤ 5864062014805 then (laws_toMarkS.l0 k l0 (List.replicate ((l0.length : Int) : Int).toNat z98) 0) else (none)) else (none)
theorem laws_toMarkS.mono_l : ∀ k, (∀ y0 y1 y2, LeO (laws_toMarkS.l0 k y0 y1 y2) (laws_toMarkS.l0 (k + 1) y0 y1 y2))
  | 0 => fun _ _ _ r h => by simp [laws_toMarkS.l0] at h
  | k + 1 => by
    have ih0 := laws_toMarkS.mono_l k
    · intro y0 y1 y2
      unfold laws_toMarkS.l0
      repeat' first
      | (with_reducible exact ih0 _ _ _)
      | (with_reducible exact LeO.refl _)
      | (with_reducible exact LeO.none _)
      | (with_reducible refine LeO.ite ?_ ?_)
      | (with_reducible refine LeO.bind ?_ (fun _ => ?_))
      | exact ih0 _ _ _
      | exact LeO.none _
      | refine LeO.ite ?_ ?_
      | refine LeO.bind ?_ (fun _ => ?_)
theorem laws_toMarkS.mono : ∀ a0 k, LeO (laws_toMarkS.f k a0) (laws_toMarkS.f (k + 1) a0) := by
  intro a0 k
  have ih0 := laws_toMarkS.mono_l k
  unfold laws_toMarkS.f
  repeat' first
      | (with_reducible exact ih0 _ _ _)
      | (with_reducible exact LeO.refl _)
      | (with_reducible exact LeO.none _)
      | (with_reducible refine LeO.ite ?_ ?_)
      | (with_reducible refine LeO.bind ?_ (fun _ => ?_))
      | exact ih0 _ _ _
      | exact LeO.none _
      | refine LeO.ite ?_ ?_
      | refine LeO.bind ?_ (fun _ => ?_)
set_option maxHeartbeats 8000000 in
set_option maxRecDepth 100000 in
theorem laws_toMarkS.calls (k : Nat) (A0 : Option Addr) (c0 : Nat) (l0 : List (S167)) (r : List (S98)) (w : World) (hr0 : Kd.C k167 w A0 l0.length l0) (hc0 : l0.length ≤ c0) (h : laws_toMarkS.f k l0 = some r) :
    Calls Try.prog 67 #[.slice A0 l0.length c0] w fun e w' => ∃ v0_ : Value, e = .returned (v0_) ∧ Kd.R k98 98 w' w.heap.size (fun _ => True) v0_ r ∧ Below w.heap.size w w' := by
  have hu167 := Try.underlying167
  have hu98 := Try.underlying98
  have HR0 := Aside0.mk hr0
  have HC0 := Aside0.mk hc0
  clear hr0 hc0
  have HB := Aside0.mk (Below.refl w.heap.size w)
  have H : (if 0 ≤ (l0.length : Int) then (if ((l0.length : Int) : Int).toNat ≤ 5864062014805 then (laws_toMarkS.l0 k l0 (List.replicate ((l0.length : Int) : Int).toNat z98) 0) else (none)) else (none)) = some r := h
  clear h
  by_cases c2 : 0 ≤ (l0.length : Int)
  · rw [if_pos c2] at H
    have c2b0 := eq_true c2
    have c2b1 : decide (0 ≤ (l0.length : Int)) = true := decide_eq_true c2
    clear c2
    by_cases c3 : ((l0.length : Int) : Int).toNat ≤ 5864062014805
    · rw [if_pos c3] at H
      have c3b0 := eq_true c3
      have c3b1 : decide (((l0.length : Int) : Int).toNat ≤ 5864062014805) = true := decide_eq_true c3
      clear c3
      obtain ⟨y243, hy243⟩ : ∃ y_ : List (S98), y_ = (List.replicate ((l0.length : Int) : Int).toNat z98) := ⟨_, rfl⟩
      replace H : (laws_toMarkS.l0 k l0 y243 0) = some r := by first | (rw [hy243]; with_reducible exact H) | (have H2_ := (Option.bind_some _ _).symm.trans H; rw [hy243]; with_reducible exact H2_) | (have H2_ := (Option.bind_some _ _).symm.trans H; with_reducible exact H2_) | with_reducible exact H | (rw [hy243]; exact H) | exact H
      have Ny243 := Aside0.mk hy243
      clear hy243
      have H' := Aside0.mk H
      clear H
      go_enter Try.func67, Try.ntmps67
      go_wp2_with (first | ((with_reducible refine gate_dst (N := 7) rfl ?_); refine Kd.R_make k98 _ 98 rfl (N := 7) rfl 41 _ _ rfl (l0.length : Int) rfl rfl Try.underlying41 (.agg #[(.string ⟨#[]⟩), (.int .i64 0), (.int .i64 0), (.int .i64 0), (.int .i64 0)]) 48 info98 rfl (by decide) (by omega) z98 (ok := fun _ => True) (okp := fun _ => True) (k98_mkM _ _ _ z98 ) (fun _ hk => hk) trivial (od) (Nat.le_trans (Nat.mul_le_mul_right _ (od : (l0.length : Int).toNat ≤ 5864062014805)) (by omega)) (Below.refl _ _) (Nat.le_refl _) ?_; intro v244 w4 ho5 hb hg_ hnew_; clear hg_ hnew_; (first | rw [← Ny243.out] at ho5 | (simp only [Int.reduceToNat] at ho5; rw [← Ny243.out] at ho5)); have HO245 := Aside0.mk (Kd.R_lower ho5 (below_size bw)); replace HB := bs hb; clear hb ho5))
      go_loopg [4] k (fun kq v4 w' => ∃ (x3_1 : List (S98)) (x4_1 : Int), v4 = .int .i64 x4_1 ∧ Aside0 (laws_toMarkS.l0 kq l0 x3_1 x4_1 = some r) ∧ Aside0 (kq ≤ k) ∧ Aside0 (Kd.R k98 98 w' w.heap.size (fun _ => True) v244 x3_1) ∧ Aside0 (Below w.heap.size w w'))
      case atStart => exact ⟨(y243), (0), (by first | rfl | (simp; done) | (simp [*]; done)), H', ⟨Nat.le_refl _⟩, ⟨by refine ra (h := ?_); exact HO245.out⟩, ⟨bw⟩⟩
      case round =>
        clear H'
        try clear c2
        try clear c2b0
        try clear c2b1
        try clear p2
        try clear c3
        try clear c3b0
        try clear c3b1
        obtain ⟨x3_1, x4_1, rfl, HA, HK1, HO_3, HB⟩ := hrel
        cases gk with
        | zero => exact absurd HA.out (by simp [laws_toMarkS.l0])
        | succ k1 =>
          have H := HA.out
          clear HA
          simp only [laws_toMarkS.l0] at H
          by_cases c6 : x4_1 < (l0.length : Int)
          · rw [if_pos c6] at H
            have c6b0 : decide (x4_1 < (l0.length : Int)) = true := decide_eq_true c6
            clear c6
            by_cases c7 : 0 ≤ x4_1
            · rw [if_pos c7] at H
              have c7b0 : decide (0 ≤ x4_1) = true := decide_eq_true c7
              clear c7
              replace H := Option.bind_eq_some_iff.mp H
              obtain ⟨⟨t247, t248, t249, t250, t251⟩, A80, H⟩ := H
              replace H : (if x4_1 < (x3_1.length : Int) then (laws_toMarkS.l0 k1 l0 (x3_1.set (x4_1 : Int).toNat (⟨t247, (⟨t248, (⟨t249, t250, t251⟩ : S94)⟩ : S96)⟩ : S98)) (wrap64 (x4_1 + 1))) else (none)) = some r := H
              have A8 := Aside0.mk A80
              clear A80
              by_cases c9 : x4_1 < (x3_1.length : Int)
              · rw [if_pos c9] at H
                have c9b0 : decide (x4_1 < (x3_1.length : Int)) = true := decide_eq_true c9
                clear c9
                obtain ⟨y252, hy252⟩ : ∃ y_ : List (S98), y_ = (x3_1.set (x4_1 : Int).toNat (⟨t247, (⟨t248, (⟨t249, t250, t251⟩ : S94)⟩ : S96)⟩ : S98)) := ⟨_, rfl⟩
                replace H : (laws_toMarkS.l0 k1 l0 y252 (wrap64 (x4_1 + 1))) = some r := by first | (rw [hy252]; with_reducible exact H) | (have H2_ := (Option.bind_some _ _).symm.trans H; rw [hy252]; with_reducible exact H2_) | (have H2_ := (Option.bind_some _ _).symm.trans H; with_reducible exact H2_) | with_reducible exact H | (rw [hy252]; exact H) | exact H
                have Ny252 := Aside0.mk hy252
                clear hy252
                have H' := Aside0.mk H
                clear H
                have p246 : 0 ≤ (x4_1 : Int) := od
                have q246 : x4_1 < (l0.length : Int) := od
                obtain ⟨ad246, e246, hx246_0, hx246_1, hx246_2, hx246_3, hx246_4⟩ := at_T167 HR0.out x4_1 p246 q246
                cases e246
                replace hx246_0 := bc hx246_0
                replace hx246_1 := bc hx246_1
                replace hx246_2 := bc hx246_2
                replace hx246_3 := bc hx246_3
                replace hx246_4 := bc hx246_4
                replace p246 := eq_true p246
                replace q246 := eq_true q246
                go_wp2_with (first | ((with_reducible refine gate_callee (f := 135) rfl ?_); refine gl (some 20) Try.func135 #[.agg #[.string ((rd_T167 l0 x4_1).f0), .int .i64 ((rd_T167 l0 x4_1).f1.f0), .int .i64 ((rd_T167 l0 x4_1).f1.f1.f0), .int .i64 ((rd_T167 l0 x4_1).f1.f1.f1), .int .i64 ((rd_T167 l0 x4_1).f1.f1.f2)]] ?_; (with_reducible refine (laws_toMark.calls ((rd_T167 l0 x4_1).f0) ((rd_T167 l0 x4_1).f1.f0) ((rd_T167 l0 x4_1).f1.f1.f0) ((rd_T167 l0 x4_1).f1.f1.f1) ((rd_T167 l0 x4_1).f1.f1.f2) t247 t248 t249 t250 t251 _ A8.out).mono ?_); rintro e w11 ⟨rfl, hb⟩; refine ⟨_, rfl, ?_⟩; replace HO_3 := Aside0.mk (Kd.R_below (ra (h := HO_3.out)) hb); replace HB := bs hb; (try clear hb); (try clear hb2); (try clear hk); (try clear hi); have p10 : 0 ≤ (x4_1 : Int) := od; have q10 : (x4_1 : Int) < ((x3_1.length : Int) : Int) := od; obtain ⟨go10, co10, eo10, gb10, gl10, cl10, HG10⟩ := Kd.R_form HO_3.out (by omega); (first | cases eo10 | (injection eo10 with ea_ en_ ec_; (first | subst ea_ | (injection ea_ with ea_; subst ea_)); subst ec_; clear en_)); have GB10 := Aside0.mk gb10; have GG10 := Aside0.mk HG10; clear gb10 gl10 HG10; obtain ⟨ce10, hcl10, hM10, hcc10, hfr10⟩ := Kd.R_elem HO_3.out z98 (x4_1 : Int) p10 q10; obtain rfl := k98_openM hM10; have hx10_0 : w11.cell? ⟨go10, (x4_1 : Int).toNat * 5, none⟩ = some (.string ((rd_T98 x3_1 x4_1).f0)) := hcc10 0 _ rfl; have hx10_1 : w11.cell? ⟨go10, (x4_1 : Int).toNat * 5 + 1, none⟩ = some (.int .i64 ((rd_T98 x3_1 x4_1).f1.f0)) := hcc10 1 _ rfl; have hx10_2 : w11.cell? ⟨go10, (x4_1 : Int).toNat * 5 + 2, none⟩ = some (.int .i64 ((rd_T98 x3_1 x4_1).f1.f1.f0)) := hcc10 2 _ rfl; have hx10_3 : w11.cell? ⟨go10, (x4_1 : Int).toNat * 5 + 3, none⟩ = some (.int .i64 ((rd_T98 x3_1 x4_1).f1.f1.f1)) := hcc10 3 _ rfl; have hx10_4 : w11.cell? ⟨go10, (x4_1 : Int).toNat * 5 + 4, none⟩ = some (.int .i64 ((rd_T98 x3_1 x4_1).f1.f1.f2)) := hcc10 4 _ rfl; have hf10_0 : w11.frozen? ⟨go10, (x4_1 : Int).toNat * 5, none⟩ = false := hfr10 0; have hf10_1 : w11.frozen? ⟨go10, (x4_1 : Int).toNat * 5 + 1, none⟩ = false := hfr10 1; have hf10_2 : w11.frozen? ⟨go10, (x4_1 : Int).toNat * 5 + 2, none⟩ = false := hfr10 2; have hf10_3 : w11.frozen? ⟨go10, (x4_1 : Int).toNat * 5 + 3, none⟩ = false := hfr10 3; have hf10_4 : w11.frozen? ⟨go10, (x4_1 : Int).toNat * 5 + 4, none⟩ = false := hfr10 4; clear hcl10 hcc10 hfr10 hM10; replace p10 := eq_true p10; replace q10 := eq_true q10; have HX12 := Aside0.mk (show Kd.R k98 98 w11 w.heap.size (fun _ => True) (.slice (some ⟨go10, 0, none⟩) x3_1.length co10) x3_1 from (ra (h := HO_3.out))); obtain ⟨ce12, hcl12, hM12, hcc12, hfr12⟩ := Kd.R_elem HX12.out z98 (x4_1 : Int) (od) (by have h_ : (x4_1 : Int) < ((x3_1.length : Int) : Int) := od; first | exact h_ | (have e_ := (Kd.R_reads' HO_3.out).1; omega) | simpa using h_); obtain rfl := k98_openM hM12; have HP12 := Kd.R_seg HX12.out (x4_1 : Int) (od) (by have h_ : (x4_1 : Int) < ((x3_1.length : Int) : Int) := od; first | exact h_ | (have e_ := (Kd.R_reads' HO_3.out).1; omega) | simpa using h_) (seg := [.string t247, .int .i64 t248, .int .i64 t249, .int .i64 t250, .int .i64 t251]) (j := 0) hcl12 hcc12 (show 5 ≤ 5 from by decide) (x' := (⟨t247, (⟨t248, (⟨t249, t250, t251⟩ : S94)⟩ : S96)⟩ : S98)) (k98_mkM _ _ _ (⟨t247, (⟨t248, (⟨t249, t250, t251⟩ : S94)⟩ : S96)⟩ : S98) ) (fun _ hk => hk); have hx12_0 := hcc12 0 _ rfl; (try simp only [show (k98).sz = 5 from rfl, Nat.mul_one, Nat.add_zero] at hx12_0); have hf12_0 := hfr12 0; (try simp only [show (k98).sz = 5 from rfl, Nat.mul_one, Nat.add_zero] at hf12_0); have hx12_1 := hcc12 1 _ rfl; (try simp only [show (k98).sz = 5 from rfl, Nat.mul_one, Nat.add_zero] at hx12_1); have hf12_1 := hfr12 1; (try simp only [show (k98).sz = 5 from rfl, Nat.mul_one, Nat.add_zero] at hf12_1); have hx12_2 := hcc12 2 _ rfl; (try simp only [show (k98).sz = 5 from rfl, Nat.mul_one, Nat.add_zero] at hx12_2); have hf12_2 := hfr12 2; (try simp only [show (k98).sz = 5 from rfl, Nat.mul_one, Nat.add_zero] at hf12_2); have hx12_3 := hcc12 3 _ rfl; (try simp only [show (k98).sz = 5 from rfl, Nat.mul_one, Nat.add_zero] at hx12_3); have hf12_3 := hfr12 3; (try simp only [show (k98).sz = 5 from rfl, Nat.mul_one, Nat.add_zero] at hf12_3); have hx12_4 := hcc12 4 _ rfl; (try simp only [show (k98).sz = 5 from rfl, Nat.mul_one, Nat.add_zero] at hx12_4); have hf12_4 := hfr12 4; (try simp only [show (k98).sz = 5 from rfl, Nat.mul_one, Nat.add_zero] at hf12_4); clear hcl12 hcc12 hfr12 hM12) | ((with_reducible refine gate_store (t := 98) (p := 21) rfl ?_); refine store_event (t := 98) (p := 21) (v := ?vo_w13) (w1 := (((((w11.setCell ⟨go10, (x4_1 : Int).toNat * 5, none⟩ (.string t247)).setCell ⟨go10, (x4_1 : Int).toNat * 5 + 1, none⟩ (.int .i64 t248)).setCell ⟨go10, (x4_1 : Int).toNat * 5 + 2, none⟩ (.int .i64 t249)).setCell ⟨go10, (x4_1 : Int).toNat * 5 + 3, none⟩ (.int .i64 t250)).setCell ⟨go10, (x4_1 : Int).toNat * 5 + 4, none⟩ (.int .i64 t251))) ?hg ?ho ?hn ?hr ?_; (case ho => rfl); (case hg => rfl); (case hn => rfl); (case hr => first | (go_simp; done) | (go_simp; rfl)); intro w13 hw; have hg : w11.grownBy w13 (some go10) := (by rw [hw]; exact HP12.2); have hp_ : Kd.R k98 98 w13 w.heap.size (fun _ => True) (.slice (some ⟨go10, 0, none⟩) x3_1.length co10) y252 := (by rw [hw, Ny252.out]; exact HP12.1); clear HP12; replace HO_3 := Aside0.mk (hp_); replace HB := Aside0.mk ((by rw [hw]; exact below_set (below_set (below_set (below_set (below_set (HB.out) GB10.out) GB10.out) GB10.out) GB10.out) GB10.out : Below w.heap.size w w13)); clear hg hw hp_))
                go_roundg k1
                case measure => have := HK1.out; omega
                case rel => exact ⟨(y252), (wrap64 (x4_1 + 1)), (by first | rfl | (simp; done) | (simp [*]; done)), H', ⟨by have := HK1.out; omega⟩, ⟨by refine ra (h := ?_); exact HO_3.out⟩, ⟨bw⟩⟩
              · rw [if_neg c9] at H
                exact absurd H (by simp)
            · rw [if_neg c7] at H
              exact absurd H (by simp)
          · rw [if_neg c6] at H
            have c6b0 : decide (x4_1 < (l0.length : Int)) = false := decide_eq_false c6
            clear c6
            obtain rfl := Option.some.inj H
            go_wp2
            go_ret
            exact ⟨_, er, by refine ra (h := ?_); exact HO_3.out, bw⟩
    · rw [if_neg c3] at H
      exact absurd H (by simp)
  · rw [if_neg c2] at H
    exact absurd H (by simp)

/-! ### laws_toRun: function 19 -/
def laws_toRun.f (k : Nat) (l0_0 : List (S161)) (l0_1 : List (S167)) : Option ((List (S65)) × (List (S98))) := (laws_toStateS.f k l0_0).bind fun t256 => ((laws_toMarkS.f k l0_1).bind fun t259 => (some (t256, t259)))
theorem laws_toRun.mono : ∀ a0 a1 k, LeO (laws_toRun.f k a0 a1) (laws_toRun.f (k + 1) a0 a1) := by
  intro a0 a1 k
  unfold laws_toRun.f
  repeat' first
      | (with_reducible exact laws_toMarkS.mono _ _)
      | (with_reducible exact laws_toStateS.mono _ _)
      | (with_reducible exact LeO.refl _)
      | (with_reducible exact LeO.none _)
      | (with_reducible refine LeO.ite ?_ ?_)
      | (with_reducible refine LeO.bind ?_ (fun _ => ?_))
      | exact laws_toMarkS.mono _ _
      | exact laws_toStateS.mono _ _
      | exact LeO.none _
      | refine LeO.ite ?_ ?_
      | refine LeO.bind ?_ (fun _ => ?_)
set_option maxHeartbeats 8000000 in
set_option maxRecDepth 100000 in
theorem laws_toRun.calls (k : Nat) (A0_0 : Option Addr) (c0_0 : Nat) (l0_0 : List (S161)) (A0_1 : Option Addr) (c0_1 : Nat) (l0_1 : List (S167)) (r1 : List (S65)) (r2 : List (S98)) (w : World) (hr0_0 : Kd.C k161 w A0_0 l0_0.length l0_0) (hc0_0 : l0_0.length ≤ c0_0) (hr0_1 : Kd.C k167 w A0_1 l0_1.length l0_1) (hc0_1 : l0_1.length ≤ c0_1) (h : laws_toRun.f k l0_0 l0_1 = some (r1, r2)) :
    Calls Try.prog 19 #[.agg #[.slice A0_0 l0_0.length c0_0, .slice A0_1 l0_1.length c0_1]] w fun e w' => ∃ v0_ v1_ : Value, e = .returned (.agg #[v0_, v1_]) ∧ Kd.R k65 65 w' w.heap.size (fun _ => True) v0_ r1 ∧ Kd.R k98 98 w' w.heap.size (fun _ => True) v1_ r2 ∧ Below w.heap.size w w' := by
  have hu37 := Try.underlying37
  have hu43 := Try.underlying43
  have HR0_0 := Aside0.mk hr0_0
  have HC0_0 := Aside0.mk hc0_0
  clear hr0_0 hc0_0
  have HR0_1 := Aside0.mk hr0_1
  have HC0_1 := Aside0.mk hc0_1
  clear hr0_1 hc0_1
  have HB := Aside0.mk (Below.refl w.heap.size w)
  have H : ((laws_toStateS.f k l0_0).bind fun t256 => ((laws_toMarkS.f k l0_1).bind fun t259 => (some (t256, t259)))) = some (r1, r2) := h
  clear h
  replace H := Option.bind_eq_some_iff.mp H
  obtain ⟨t256, A20, H⟩ := H
  replace H : ((laws_toMarkS.f k l0_1).bind fun t259 => (some (t256, t259))) = some (r1, r2) := H
  have A2 := Aside0.mk A20
  clear A20
  replace H := Option.bind_eq_some_iff.mp H
  obtain ⟨t259, A30, H⟩ := H
  replace H : (some (t256, t259)) = some (r1, r2) := H
  have A3 := Aside0.mk A30
  clear A30
  simp only [Option.some.injEq, Prod.mk.injEq] at H
  obtain ⟨rfl, rfl⟩ := H
  go_enter Try.func19, Try.ntmps19
  go_wp2_with (first | ((with_reducible refine gate_dst (N := 1) rfl ?_); refine bx #[.slice A0_0 l0_0.length c0_0, .slice A0_1 l0_1.length c0_1] 37 ?_; intro gb253 hg w4 hbox hb; have BK253 := Aside0.mk hbox; have GW253 := bg hg; have GE253 := bg hg; replace HB := bs hb; clear hb hbox hg) | ((with_reducible refine gate_dst (N := 2) rfl ?_); refine bx #[.slice none 0 0, .slice none 0 0] 43 ?_; intro gb254 hg w5 hbox hb; have BK254 := Aside0.mk hbox; have GW254 := bg hg; have GE254 := bg hg; have NB253_254 := bl BK253 hg; have NB254_253 := bv BK253 hg; replace BK253 := bb BK253 hb; replace HB := bs hb; clear hb hbox hg) | ((with_reducible refine gate_dst (N := 3) rfl ?_); refine bx #[.slice none 0 0, .slice none 0 0] 43 ?_; intro gb255 hg w6 hbox hb; have BK255 := Aside0.mk hbox; have GW255 := bg hg; have GE255 := bg hg; have NB253_255 := bl BK253 hg; have NB255_253 := bv BK253 hg; have NB254_255 := bl BK254 hg; have NB255_254 := bv BK254 hg; replace BK253 := bb BK253 hb; replace BK254 := bb BK254 hb; replace HB := bs hb; clear hb hbox hg; have hnb7 := NB253_254.out; have hnc7 := NB254_253.out; have hnb8 := NB253_255.out; have hnc8 := NB255_253.out; obtain ⟨z9_0, z9_1, y9_0, y9_1⟩ := bq2 BK253) | ((with_reducible refine gate_callee (f := 66) rfl ?_); refine gl (some 6) Try.func66 #[.slice A0_0 l0_0.length c0_0] ?_; (with_reducible refine (laws_toStateS.calls k _ _ l0_0 t256 _ ?side1 ?side2 A2.out).mono ?_); (case side1 => exact sd HR0_0); (case side2 => exact HC0_0.out); rintro e w10 ⟨v257, rfl, ho0, hb⟩; refine ⟨_, rfl, ?_⟩; have HO258 := Aside0.mk (Kd.R_lower ho0 (below_size bw)); replace BK253 := bb BK253 hb; replace BK254 := bb BK254 hb; replace BK255 := bb BK255 hb; replace HB := bs hb; (try clear hb); (try clear hb2); (try clear hk); (try clear hi); (try clear ho0); obtain ⟨Ao11, co11, eo11⟩ := Kd.R_slice HO258.out; subst eo11; have hnb12 := NB255_254.out; have hnc12 := NB254_255.out; obtain ⟨z13_0, z13_1, y13_0, y13_1⟩ := bq2 BK255; obtain ⟨z14_0, z14_1, y14_0, y14_1⟩ := bq2 BK253) | ((with_reducible refine gate_callee (f := 67) rfl ?_); refine gl (some 10) Try.func67 #[.slice A0_1 l0_1.length c0_1] ?_; (with_reducible refine (laws_toMarkS.calls k _ _ l0_1 t259 _ ?side1 ?side2 A3.out).mono ?_); (case side1 => exact Kd.C_below HR0_1.out bw); (case side2 => exact HC0_1.out); rintro e w15 ⟨v260, rfl, ho0, hb⟩; refine ⟨_, rfl, ?_⟩; have HO261 := Aside0.mk (Kd.R_lower ho0 (below_size bw)); replace HO258 := Aside0.mk (Kd.R_below (by refine ra (h := ?_); exact (Kd.R_mono (Kd.R_far (p := ⟨gb255, 0, none⟩) (Kd.R_types HO258.out BK255.out (by decide)) (fun _ hk => hk.2) (.slice Ao11 t256.length co11)) (fun _ h_ => h_.1))) hb); replace BK253 := Aside0.mk (blk_below (g := gb253) (o := .cells #[.slice A0_0 l0_0.length c0_0, .slice A0_1 l0_1.length c0_1] 37 (0, 0)) (by refine bk (h := ?_); refine blk_far ?_ NB253_255.out _; refine bk (h := ?_); exact BK253.out) hb); replace BK254 := Aside0.mk (blk_below (g := gb254) (o := .cells #[.slice none 0 0, .slice none 0 0] 43 (0, 0)) (by refine bk (h := ?_); refine blk_far ?_ NB254_255.out _; refine bk (h := ?_); exact BK254.out) hb); replace BK255 := Aside0.mk (blk_below (g := gb255) (o := .cells #[.slice Ao11 t256.length co11, .slice none 0 0] 43 (0, 0)) (by refine bk (h := ?_); refine blk_put (cs := #[.slice none 0 0, .slice none 0 0]) ?_ 0 _ rfl; refine bk (h := ?_); exact BK255.out) hb); replace HB := bs hb; (try clear hb); (try clear hb2); (try clear hk); (try clear hi); (try clear ho0); obtain ⟨Ao16, co16, eo16⟩ := Kd.R_slice HO261.out; subst eo16; obtain ⟨z17_0, z17_1, y17_0, y17_1⟩ := bq2 BK255; obtain ⟨z18_0, z18_1, y18_0, y18_1⟩ := bq2 BK254))
  refine bodyPost_ret (results_cell_row rfl _ _ gb254 43 #[.slice Ao11 t256.length co11, .slice Ao16 t259.length co16] (0, 0) _ rfl (by refine bk (h := ?_); refine blk_put (cs := #[.slice Ao11 t256.length co11, .slice none 0 0]) ?_ 1 _ rfl; refine bk (h := ?_); refine blk_put (cs := #[.slice none 0 0, .slice none 0 0]) ?_ 0 _ rfl; refine bk (h := ?_); refine blk_far ?_ NB254_255.out _; refine bk (h := ?_); exact BK254.out) Try.underlying43 rfl (by kernel_rfl)) rfl ?_
  exact ⟨_, _, er, by refine ra (h := ?_); exact Kd.R_mono (Kd.R_far (p := ⟨gb254, 1, none⟩) (Kd.R_far (p := ⟨gb254, 0, none⟩) (Kd.R_far (p := ⟨gb255, 1, none⟩) (Kd.R_types (Kd.R_types HO258.out BK255.out (by decide)) BK254.out (by decide)) (fun _ hk => hk.1.2) (.slice Ao16 t259.length co16)) (fun _ hk => hk.2) (.slice Ao11 t256.length co11)) (fun _ hk => hk.2) (.slice Ao16 t259.length co16)) (fun _ hk => trivial), by refine ra (h := ?_); exact Kd.R_mono (Kd.R_far (p := ⟨gb254, 1, none⟩) (Kd.R_far (p := ⟨gb254, 0, none⟩) (Kd.R_far (p := ⟨gb255, 1, none⟩) (Kd.R_types (Kd.R_types HO261.out BK255.out (by decide)) BK254.out (by decide)) (fun _ hk => hk.1.2) (.slice Ao16 t259.length co16)) (fun _ hk => hk.2) (.slice Ao11 t256.length co11)) (fun _ hk => hk.2) (.slice Ao16 t259.length co16)) (fun _ hk => trivial), bw⟩

/-! ### impl_Mark: function 70 -/
def impl_Mark.l0 : Nat → List (S98) → List (S98) → Int → Int → Option (Bool)
  | 0, _, _, _, _ => none
  | k + 1, x0, x1, x12, x13 => if x13 < x12 then (if 0 ≤ x13 then (if x13 < (x0.length : Int) then (if x13 < (x1.length : Int) then (if (!((((rd_T98 x0 x13).f0).toList) == (((rd_T98 x1 x13).f0).toList)) || ((!(((rd_T98 x0 x13).f1.f0) == ((rd_T98 x1 x13).f1.f0)) || ((!(((rd_T98 x0 x13).f1.f1.f0) == ((rd_T98 x1 x13).f1.f1.f0)) || (!(((rd_T98 x0 x13).f1.f1.f1) == ((rd_T98 x1 x13).f1.f1.f1)) || (!(((rd_T98 x0 x13).f1.f1.f2) == ((rd_T98 x1 x13).f1.f1.f2))))))))) = true then (some false) else (impl_Mark.l0 k x0 x1 x12 (wrap64 (x13 + 1)))) else (none)) else (none)) else (none)) else (some true)
def impl_Mark.f (k : Nat) (l0 : List (S98)) (l1 : List (S98)) : Option (Bool) := if (l0.length : Int) = (l1.length : Int) then (impl_Mark.l0 k l0 l1 (l0.length : Int) 0) else (some false)
theorem impl_Mark.mono_l : ∀ k, (∀ y0 y1 y2 y3, LeO (impl_Mark.l0 k y0 y1 y2 y3) (impl_Mark.l0 (k + 1) y0 y1 y2 y3))
  | 0 => fun _ _ _ _ r h => by simp [impl_Mark.l0] at h
  | k + 1 => by
    have ih0 := impl_Mark.mono_l k
    · intro y0 y1 y2 y3
      unfold impl_Mark.l0
      repeat' first
      | (with_reducible exact ih0 _ _ _ _)
      | (with_reducible exact LeO.refl _)
      | (with_reducible exact LeO.none _)
      | (with_reducible refine LeO.ite ?_ ?_)
      | (with_reducible refine LeO.bind ?_ (fun _ => ?_))
      | exact ih0 _ _ _ _
      | exact LeO.none _
      | refine LeO.ite ?_ ?_
      | refine LeO.bind ?_ (fun _ => ?_)
theorem impl_Mark.mono : ∀ a0 a1 k, LeO (impl_Mark.f k a0 a1) (impl_Mark.f (k + 1) a0 a1) := by
  intro a0 a1 k
  have ih0 := impl_Mark.mono_l k
  unfold impl_Mark.f
  repeat' first
      | (with_reducible exact ih0 _ _ _ _)
      | (with_reducible exact LeO.refl _)
      | (with_reducible exact LeO.none _)
      | (with_reducible refine LeO.ite ?_ ?_)
      | (with_reducible refine LeO.bind ?_ (fun _ => ?_))
      | exact ih0 _ _ _ _
      | exact LeO.none _
      | refine LeO.ite ?_ ?_
      | refine LeO.bind ?_ (fun _ => ?_)
set_option maxHeartbeats 8000000 in
set_option maxRecDepth 100000 in
theorem impl_Mark.calls (k : Nat) (A0 : Option Addr) (c0 : Nat) (l0 : List (S98)) (A1 : Option Addr) (c1 : Nat) (l1 : List (S98)) (r : Bool) (w : World) (hr0 : Kd.C k98 w A0 l0.length l0) (hc0 : l0.length ≤ c0) (hr1 : Kd.C k98 w A1 l1.length l1) (hc1 : l1.length ≤ c1) (h : impl_Mark.f k l0 l1 = some r) :
    Calls Try.prog 70 #[.slice A0 l0.length c0, .slice A1 l1.length c1] w fun e w' => e = .returned (.bool r) ∧ Drawn0 w w' := by
  have hu98 := Try.underlying98
  have HR0 := Aside0.mk hr0
  have HC0 := Aside0.mk hc0
  clear hr0 hc0
  have HR1 := Aside0.mk hr1
  have HC1 := Aside0.mk hc1
  clear hr1 hc1
  have H : (if (l0.length : Int) = (l1.length : Int) then (impl_Mark.l0 k l0 l1 (l0.length : Int) 0) else (some false)) = some r := h
  clear h
  by_cases c3 : (l0.length : Int) = (l1.length : Int)
  · rw [if_pos c3] at H
    have c3b0 : ((l0.length : Int) == (l1.length : Int)) = true := beq_iff_eq.mpr c3
    have c3b1 : ((l0.length : Int) != (l1.length : Int)) = false := bne_eq_false_iff_eq.mpr c3
    have c3b2 : (l0.length == l1.length) = true := by first | simpa using c3 | (simp at c3 ⊢; omega)
    clear c3
    have H' := Aside0.mk H
    clear H
    go_enter Try.func70, Try.ntmps70
    go_wp2
    repeat (go_quiet (fail); try go_wp2)
    go_loopg [13] k (fun kq v13 w' => ∃ (x13_1 : Int), v13 = .int .i64 x13_1 ∧ Aside0 (impl_Mark.l0 kq l0 l1 (l0.length : Int) x13_1 = some r) ∧ Aside0 (kq ≤ k) ∧ Drawn0 w w')
    case atStart => exact ⟨(0), (by first | rfl | (simp; done) | (simp [*]; done)), H', ⟨Nat.le_refl _⟩, by repeat (first | exact Drawn0.refl _ | apply Drawn0.step)⟩
    case round =>
      clear H'
      try clear c1
      try clear p2
      try clear c3
      try clear c3b0
      try clear c3b1
      try clear c3b2
      obtain ⟨x13_1, rfl, HA, HK1, ⟨m1, rfl⟩⟩ := hrel
      cases gk with
      | zero => exact absurd HA.out (by simp [impl_Mark.l0])
      | succ k1 =>
        have H := HA.out
        clear HA
        simp only [impl_Mark.l0] at H
        by_cases c4 : x13_1 < (l0.length : Int)
        · rw [if_pos c4] at H
          have c4b0 : decide (x13_1 < (l0.length : Int)) = true := decide_eq_true c4
          clear c4
          by_cases c5 : 0 ≤ x13_1
          · rw [if_pos c5] at H
            have c5b0 : decide (0 ≤ x13_1) = true := decide_eq_true c5
            clear c5
            by_cases c6 : x13_1 < (l0.length : Int)
            · rw [if_pos c6] at H
              have c6b0 : decide (x13_1 < (l0.length : Int)) = true := decide_eq_true c6
              clear c6
              by_cases c7 : x13_1 < (l1.length : Int)
              · rw [if_pos c7] at H
                have c7b0 : decide (x13_1 < (l1.length : Int)) = true := decide_eq_true c7
                clear c7
                by_cases c8 : (!((((rd_T98 l0 x13_1).f0).toList) == (((rd_T98 l1 x13_1).f0).toList)) || ((!(((rd_T98 l0 x13_1).f1.f0) == ((rd_T98 l1 x13_1).f1.f0)) || ((!(((rd_T98 l0 x13_1).f1.f1.f0) == ((rd_T98 l1 x13_1).f1.f1.f0)) || (!(((rd_T98 l0 x13_1).f1.f1.f1) == ((rd_T98 l1 x13_1).f1.f1.f1)) || (!(((rd_T98 l0 x13_1).f1.f1.f2) == ((rd_T98 l1 x13_1).f1.f1.f2))))))))) = true
                · rw [if_pos c8] at H
                  have c8b0 : (!((((rd_T98 l0 x13_1).f0).toList) == (((rd_T98 l1 x13_1).f0).toList)) || ((!(((rd_T98 l0 x13_1).f1.f0) == ((rd_T98 l1 x13_1).f1.f0)) || ((!(((rd_T98 l0 x13_1).f1.f1.f0) == ((rd_T98 l1 x13_1).f1.f1.f0)) || (!(((rd_T98 l0 x13_1).f1.f1.f1) == ((rd_T98 l1 x13_1).f1.f1.f1)) || (!(((rd_T98 l0 x13_1).f1.f1.f2) == ((rd_T98 l1 x13_1).f1.f1.f2))))))))) = true := c8
                  clear c8
                  obtain rfl := Option.some.inj H
                  have p262 : 0 ≤ (x13_1 : Int) := od
                  have q262 : x13_1 < (l0.length : Int) := od
                  obtain ⟨ad262, e262, hx262_0, hx262_1, hx262_2, hx262_3, hx262_4⟩ := at_T98 HR0.out x13_1 p262 q262
                  cases e262
                  replace p262 := eq_true p262
                  replace q262 := eq_true q262
                  have p263 : 0 ≤ (x13_1 : Int) := od
                  have q263 : x13_1 < (l1.length : Int) := od
                  obtain ⟨ad263, e263, hx263_0, hx263_1, hx263_2, hx263_3, hx263_4⟩ := at_T98 HR1.out x13_1 p263 q263
                  cases e263
                  replace p263 := eq_true p263
                  replace q263 := eq_true q263
                  go_wp2
                  repeat (go_quiet (fail); try go_wp2)
                  go_ret
                  exact ⟨by first | rfl | (simp; done) | (simp [*]; done), by repeat (first | exact Drawn0.refl _ | apply Drawn0.step)⟩
                · rw [if_neg c8] at H
                  have c8b0 : (!((((rd_T98 l0 x13_1).f0).toList) == (((rd_T98 l1 x13_1).f0).toList)) || ((!(((rd_T98 l0 x13_1).f1.f0) == ((rd_T98 l1 x13_1).f1.f0)) || ((!(((rd_T98 l0 x13_1).f1.f1.f0) == ((rd_T98 l1 x13_1).f1.f1.f0)) || (!(((rd_T98 l0 x13_1).f1.f1.f1) == ((rd_T98 l1 x13_1).f1.f1.f1)) || (!(((rd_T98 l0 x13_1).f1.f1.f2) == ((rd_T98 l1 x13_1).f1.f1.f2))))))))) = false := by simpa using c8
                  clear c8
                  have H' := Aside0.mk H
                  clear H
                  have p262 : 0 ≤ (x13_1 : Int) := od
                  have q262 : x13_1 < (l0.length : Int) := od
                  obtain ⟨ad262, e262, hx262_0, hx262_1, hx262_2, hx262_3, hx262_4⟩ := at_T98 HR0.out x13_1 p262 q262
                  cases e262
                  replace p262 := eq_true p262
                  replace q262 := eq_true q262
                  have p263 : 0 ≤ (x13_1 : Int) := od
                  have q263 : x13_1 < (l1.length : Int) := od
                  obtain ⟨ad263, e263, hx263_0, hx263_1, hx263_2, hx263_3, hx263_4⟩ := at_T98 HR1.out x13_1 p263 q263
                  cases e263
                  replace p263 := eq_true p263
                  replace q263 := eq_true q263
                  go_wp2
                  repeat (go_quiet (fail); try go_wp2)
                  go_roundg k1
                  case measure => have := HK1.out; omega
                  case rel => exact ⟨(wrap64 (x13_1 + 1)), (by first | rfl | (simp; done) | (simp [*]; done)), H', ⟨by have := HK1.out; omega⟩, by repeat (first | exact Drawn0.refl _ | apply Drawn0.step)⟩
              · rw [if_neg c7] at H
                exact absurd H (by simp)
            · rw [if_neg c6] at H
              exact absurd H (by simp)
          · rw [if_neg c5] at H
            exact absurd H (by simp)
        · rw [if_neg c4] at H
          have c4b0 : decide (x13_1 < (l0.length : Int)) = false := decide_eq_false c4
          clear c4
          obtain rfl := Option.some.inj H
          go_wp2
          repeat (go_quiet (fail); try go_wp2)
          go_ret
          exact ⟨by first | rfl | (simp; done) | (simp [*]; done), by repeat (first | exact Drawn0.refl _ | apply Drawn0.step)⟩
  · rw [if_neg c3] at H
    have c3b0 : ((l0.length : Int) == (l1.length : Int)) = false := beq_eq_false_iff_ne.mpr c3
    have c3b1 : ((l0.length : Int) != (l1.length : Int)) = true := bne_iff_ne.mpr c3
    have c3b2 : (l0.length == l1.length) = false := by first | simpa using c3 | (simp at c3 ⊢; omega)
    obtain rfl := Option.some.inj H
    go_enter Try.func70, Try.ntmps70
    go_wp2
    repeat (go_quiet (fail); try go_wp2)
    go_ret
    exact ⟨by first | rfl | (simp; done) | (simp [*]; done), by repeat (first | exact Drawn0.refl _ | apply Drawn0.step)⟩

/-! ### impl_Point: function 136 -/
def impl_Point.l0 : Nat → List (S130) → List (S130) → Int → Int → Option (Bool)
  | 0, _, _, _, _ => none
  | k + 1, x0, x1, x12, x13 => if x13 < x12 then (if 0 ≤ x13 then (if x13 < (x0.length : Int) then (if x13 < (x1.length : Int) then (if ((!(((rd_T130 x0 x13).f0.f0) == ((rd_T130 x1 x13).f0.f0)) || (!(((rd_T130 x0 x13).f0.f1) == ((rd_T130 x1 x13).f0.f1)) || (!(((rd_T130 x0 x13).f0.f2) == ((rd_T130 x1 x13).f0.f2))))) || ((!(((rd_T130 x0 x13).f1.f0) == ((rd_T130 x1 x13).f1.f0)) || (!(((rd_T130 x0 x13).f1.f1) == ((rd_T130 x1 x13).f1.f1)) || (!(((rd_T130 x0 x13).f1.f2) == ((rd_T130 x1 x13).f1.f2))))))) = true then (some false) else (impl_Point.l0 k x0 x1 x12 (wrap64 (x13 + 1)))) else (none)) else (none)) else (none)) else (some true)
def impl_Point.f (k : Nat) (l0 : List (S130)) (l1 : List (S130)) : Option (Bool) := if (l0.length : Int) = (l1.length : Int) then (impl_Point.l0 k l0 l1 (l0.length : Int) 0) else (some false)
theorem impl_Point.mono_l : ∀ k, (∀ y0 y1 y2 y3, LeO (impl_Point.l0 k y0 y1 y2 y3) (impl_Point.l0 (k + 1) y0 y1 y2 y3))
  | 0 => fun _ _ _ _ r h => by simp [impl_Point.l0] at h
  | k + 1 => by
    have ih0 := impl_Point.mono_l k
    · intro y0 y1 y2 y3
      unfold impl_Point.l0
      repeat' first
      | (with_reducible exact ih0 _ _ _ _)
      | (with_reducible exact LeO.refl _)
      | (with_reducible exact LeO.none _)
      | (with_reducible refine LeO.ite ?_ ?_)
      | (with_reducible refine LeO.bind ?_ (fun _ => ?_))
      | exact ih0 _ _ _ _
      | exact LeO.none _
      | refine LeO.ite ?_ ?_
      | refine LeO.bind ?_ (fun _ => ?_)
theorem impl_Point.mono : ∀ a0 a1 k, LeO (impl_Point.f k a0 a1) (impl_Point.f (k + 1) a0 a1) := by
  intro a0 a1 k
  have ih0 := impl_Point.mono_l k
  unfold impl_Point.f
  repeat' first
      | (with_reducible exact ih0 _ _ _ _)
      | (with_reducible exact LeO.refl _)
      | (with_reducible exact LeO.none _)
      | (with_reducible refine LeO.ite ?_ ?_)
      | (with_reducible refine LeO.bind ?_ (fun _ => ?_))
      | exact ih0 _ _ _ _
      | exact LeO.none _
      | refine LeO.ite ?_ ?_
      | refine LeO.bind ?_ (fun _ => ?_)
set_option maxHeartbeats 8000000 in
set_option maxRecDepth 100000 in
theorem impl_Point.calls (k : Nat) (A0 : Option Addr) (c0 : Nat) (l0 : List (S130)) (A1 : Option Addr) (c1 : Nat) (l1 : List (S130)) (r : Bool) (w : World) (hr0 : Kd.C k130 w A0 l0.length l0) (hc0 : l0.length ≤ c0) (hr1 : Kd.C k130 w A1 l1.length l1) (hc1 : l1.length ≤ c1) (h : impl_Point.f k l0 l1 = some r) :
    Calls Try.prog 136 #[.slice A0 l0.length c0, .slice A1 l1.length c1] w fun e w' => e = .returned (.bool r) ∧ Drawn0 w w' := by
  have hu130 := Try.underlying130
  have HR0 := Aside0.mk hr0
  have HC0 := Aside0.mk hc0
  clear hr0 hc0
  have HR1 := Aside0.mk hr1
  have HC1 := Aside0.mk hc1
  clear hr1 hc1
  have H : (if (l0.length : Int) = (l1.length : Int) then (impl_Point.l0 k l0 l1 (l0.length : Int) 0) else (some false)) = some r := h
  clear h
  by_cases c3 : (l0.length : Int) = (l1.length : Int)
  · rw [if_pos c3] at H
    have c3b0 : ((l0.length : Int) == (l1.length : Int)) = true := beq_iff_eq.mpr c3
    have c3b1 : ((l0.length : Int) != (l1.length : Int)) = false := bne_eq_false_iff_eq.mpr c3
    have c3b2 : (l0.length == l1.length) = true := by first | simpa using c3 | (simp at c3 ⊢; omega)
    clear c3
    have H' := Aside0.mk H
    clear H
    go_enter Try.func136, Try.ntmps136
    go_wp2
    repeat (go_quiet (fail); try go_wp2)
    go_loopg [13] k (fun kq v13 w' => ∃ (x13_1 : Int), v13 = .int .i64 x13_1 ∧ Aside0 (impl_Point.l0 kq l0 l1 (l0.length : Int) x13_1 = some r) ∧ Aside0 (kq ≤ k) ∧ Drawn0 w w')
    case atStart => exact ⟨(0), (by first | rfl | (simp; done) | (simp [*]; done)), H', ⟨Nat.le_refl _⟩, by repeat (first | exact Drawn0.refl _ | apply Drawn0.step)⟩
    case round =>
      clear H'
      try clear c1
      try clear p2
      try clear c3
      try clear c3b0
      try clear c3b1
      try clear c3b2
      obtain ⟨x13_1, rfl, HA, HK1, ⟨m1, rfl⟩⟩ := hrel
      cases gk with
      | zero => exact absurd HA.out (by simp [impl_Point.l0])
      | succ k1 =>
        have H := HA.out
        clear HA
        simp only [impl_Point.l0] at H
        by_cases c4 : x13_1 < (l0.length : Int)
        · rw [if_pos c4] at H
          have c4b0 : decide (x13_1 < (l0.length : Int)) = true := decide_eq_true c4
          clear c4
          by_cases c5 : 0 ≤ x13_1
          · rw [if_pos c5] at H
            have c5b0 : decide (0 ≤ x13_1) = true := decide_eq_true c5
            clear c5
            by_cases c6 : x13_1 < (l0.length : Int)
            · rw [if_pos c6] at H
              have c6b0 : decide (x13_1 < (l0.length : Int)) = true := decide_eq_true c6
              clear c6
              by_cases c7 : x13_1 < (l1.length : Int)
              · rw [if_pos c7] at H
                have c7b0 : decide (x13_1 < (l1.length : Int)) = true := decide_eq_true c7
                clear c7
                by_cases c8 : ((!(((rd_T130 l0 x13_1).f0.f0) == ((rd_T130 l1 x13_1).f0.f0)) || (!(((rd_T130 l0 x13_1).f0.f1) == ((rd_T130 l1 x13_1).f0.f1)) || (!(((rd_T130 l0 x13_1).f0.f2) == ((rd_T130 l1 x13_1).f0.f2))))) || ((!(((rd_T130 l0 x13_1).f1.f0) == ((rd_T130 l1 x13_1).f1.f0)) || (!(((rd_T130 l0 x13_1).f1.f1) == ((rd_T130 l1 x13_1).f1.f1)) || (!(((rd_T130 l0 x13_1).f1.f2) == ((rd_T130 l1 x13_1).f1.f2))))))) = true
                · rw [if_pos c8] at H
                  have c8b0 : ((!(((rd_T130 l0 x13_1).f0.f0) == ((rd_T130 l1 x13_1).f0.f0)) || (!(((rd_T130 l0 x13_1).f0.f1) == ((rd_T130 l1 x13_1).f0.f1)) || (!(((rd_T130 l0 x13_1).f0.f2) == ((rd_T130 l1 x13_1).f0.f2))))) || ((!(((rd_T130 l0 x13_1).f1.f0) == ((rd_T130 l1 x13_1).f1.f0)) || (!(((rd_T130 l0 x13_1).f1.f1) == ((rd_T130 l1 x13_1).f1.f1)) || (!(((rd_T130 l0 x13_1).f1.f2) == ((rd_T130 l1 x13_1).f1.f2))))))) = true := c8
                  clear c8
                  obtain rfl := Option.some.inj H
                  have p264 : 0 ≤ (x13_1 : Int) := od
                  have q264 : x13_1 < (l0.length : Int) := od
                  obtain ⟨ad264, e264, hx264_0, hx264_1, hx264_2, hx264_3, hx264_4, hx264_5⟩ := at_T130 HR0.out x13_1 p264 q264
                  cases e264
                  replace p264 := eq_true p264
                  replace q264 := eq_true q264
                  have p265 : 0 ≤ (x13_1 : Int) := od
                  have q265 : x13_1 < (l1.length : Int) := od
                  obtain ⟨ad265, e265, hx265_0, hx265_1, hx265_2, hx265_3, hx265_4, hx265_5⟩ := at_T130 HR1.out x13_1 p265 q265
                  cases e265
                  replace p265 := eq_true p265
                  replace q265 := eq_true q265
                  go_wp2
                  repeat (go_quiet (fail); try go_wp2)
                  go_ret
                  exact ⟨by first | rfl | (simp; done) | (simp [*]; done), by repeat (first | exact Drawn0.refl _ | apply Drawn0.step)⟩
                · rw [if_neg c8] at H
                  have c8b0 : ((!(((rd_T130 l0 x13_1).f0.f0) == ((rd_T130 l1 x13_1).f0.f0)) || (!(((rd_T130 l0 x13_1).f0.f1) == ((rd_T130 l1 x13_1).f0.f1)) || (!(((rd_T130 l0 x13_1).f0.f2) == ((rd_T130 l1 x13_1).f0.f2))))) || ((!(((rd_T130 l0 x13_1).f1.f0) == ((rd_T130 l1 x13_1).f1.f0)) || (!(((rd_T130 l0 x13_1).f1.f1) == ((rd_T130 l1 x13_1).f1.f1)) || (!(((rd_T130 l0 x13_1).f1.f2) == ((rd_T130 l1 x13_1).f1.f2))))))) = false := by simpa using c8
                  clear c8
                  have H' := Aside0.mk H
                  clear H
                  have p264 : 0 ≤ (x13_1 : Int) := od
                  have q264 : x13_1 < (l0.length : Int) := od
                  obtain ⟨ad264, e264, hx264_0, hx264_1, hx264_2, hx264_3, hx264_4, hx264_5⟩ := at_T130 HR0.out x13_1 p264 q264
                  cases e264
                  replace p264 := eq_true p264
                  replace q264 := eq_true q264
                  have p265 : 0 ≤ (x13_1 : Int) := od
                  have q265 : x13_1 < (l1.length : Int) := od
                  obtain ⟨ad265, e265, hx265_0, hx265_1, hx265_2, hx265_3, hx265_4, hx265_5⟩ := at_T130 HR1.out x13_1 p265 q265
                  cases e265
                  replace p265 := eq_true p265
                  replace q265 := eq_true q265
                  go_wp2
                  repeat (go_quiet (fail); try go_wp2)
                  go_roundg k1
                  case measure => have := HK1.out; omega
                  case rel => exact ⟨(wrap64 (x13_1 + 1)), (by first | rfl | (simp; done) | (simp [*]; done)), H', ⟨by have := HK1.out; omega⟩, by repeat (first | exact Drawn0.refl _ | apply Drawn0.step)⟩
              · rw [if_neg c7] at H
                exact absurd H (by simp)
            · rw [if_neg c6] at H
              exact absurd H (by simp)
          · rw [if_neg c5] at H
            exact absurd H (by simp)
        · rw [if_neg c4] at H
          have c4b0 : decide (x13_1 < (l0.length : Int)) = false := decide_eq_false c4
          clear c4
          obtain rfl := Option.some.inj H
          go_wp2
          repeat (go_quiet (fail); try go_wp2)
          go_ret
          exact ⟨by first | rfl | (simp; done) | (simp [*]; done), by repeat (first | exact Drawn0.refl _ | apply Drawn0.step)⟩
  · rw [if_neg c3] at H
    have c3b0 : ((l0.length : Int) == (l1.length : Int)) = false := beq_eq_false_iff_ne.mpr c3
    have c3b1 : ((l0.length : Int) != (l1.length : Int)) = true := bne_iff_ne.mpr c3
    have c3b2 : (l0.length == l1.length) = false := by first | simpa using c3 | (simp at c3 ⊢; omega)
    obtain rfl := Option.some.inj H
    go_enter Try.func136, Try.ntmps136
    go_wp2
    repeat (go_quiet (fail); try go_wp2)
    go_ret
    exact ⟨by first | rfl | (simp; done) | (simp [*]; done), by repeat (first | exact Drawn0.refl _ | apply Drawn0.step)⟩

/-! ### slices_Equal_int64_int64: function 137 -/
def slices_Equal_int64_int64.l0 : Nat → List Int → List Int → Int → Int → Option (Bool)
  | 0, _, _, _, _ => none
  | k + 1, x0, x1, x12, x13 => if x13 < x12 then (if 0 ≤ x13 then (if x13 < (x0.length : Int) then (if x13 < (x1.length : Int) then (if (rd x0 x13) = (rd x1 x13) then (slices_Equal_int64_int64.l0 k x0 x1 x12 (wrap64 (x13 + 1))) else (some false)) else (none)) else (none)) else (none)) else (some true)
def slices_Equal_int64_int64.f (k : Nat) (l0 : List Int) (l1 : List Int) : Option (Bool) := if (l0.length : Int) = (l1.length : Int) then (slices_Equal_int64_int64.l0 k l0 l1 (l0.length : Int) 0) else (some false)
theorem slices_Equal_int64_int64.mono_l : ∀ k, (∀ y0 y1 y2 y3, LeO (slices_Equal_int64_int64.l0 k y0 y1 y2 y3) (slices_Equal_int64_int64.l0 (k + 1) y0 y1 y2 y3))
  | 0 => fun _ _ _ _ r h => by simp [slices_Equal_int64_int64.l0] at h
  | k + 1 => by
    have ih0 := slices_Equal_int64_int64.mono_l k
    · intro y0 y1 y2 y3
      unfold slices_Equal_int64_int64.l0
      repeat' first
      | (with_reducible exact ih0 _ _ _ _)
      | (with_reducible exact LeO.refl _)
      | (with_reducible exact LeO.none _)
      | (with_reducible refine LeO.ite ?_ ?_)
      | (with_reducible refine LeO.bind ?_ (fun _ => ?_))
      | exact ih0 _ _ _ _
      | exact LeO.none _
      | refine LeO.ite ?_ ?_
      | refine LeO.bind ?_ (fun _ => ?_)
theorem slices_Equal_int64_int64.mono : ∀ a0 a1 k, LeO (slices_Equal_int64_int64.f k a0 a1) (slices_Equal_int64_int64.f (k + 1) a0 a1) := by
  intro a0 a1 k
  have ih0 := slices_Equal_int64_int64.mono_l k
  unfold slices_Equal_int64_int64.f
  repeat' first
      | (with_reducible exact ih0 _ _ _ _)
      | (with_reducible exact LeO.refl _)
      | (with_reducible exact LeO.none _)
      | (with_reducible refine LeO.ite ?_ ?_)
      | (with_reducible refine LeO.bind ?_ (fun _ => ?_))
      | exact ih0 _ _ _ _
      | exact LeO.none _
      | refine LeO.ite ?_ ?_
      | refine LeO.bind ?_ (fun _ => ?_)
set_option maxHeartbeats 8000000 in
set_option maxRecDepth 100000 in
theorem slices_Equal_int64_int64.calls (k : Nat) (A0 : Option Addr) (c0 : Nat) (l0 : List Int) (A1 : Option Addr) (c1 : Nat) (l1 : List Int) (r : Bool) (w : World) (hr0 : Kd.C (Kd.int .i64) w A0 l0.length l0) (hc0 : l0.length ≤ c0) (hr1 : Kd.C (Kd.int .i64) w A1 l1.length l1) (hc1 : l1.length ≤ c1) (h : slices_Equal_int64_int64.f k l0 l1 = some r) :
    Calls Try.prog 137 #[.slice A0 l0.length c0, .slice A1 l1.length c1] w fun e w' => e = .returned (.bool r) ∧ Drawn0 w w' := by
  have HR0 := Aside0.mk hr0
  have HC0 := Aside0.mk hc0
  clear hr0 hc0
  have HR1 := Aside0.mk hr1
  have HC1 := Aside0.mk hc1
  clear hr1 hc1
  have H : (if (l0.length : Int) = (l1.length : Int) then (slices_Equal_int64_int64.l0 k l0 l1 (l0.length : Int) 0) else (some false)) = some r := h
  clear h
  by_cases c3 : (l0.length : Int) = (l1.length : Int)
  · rw [if_pos c3] at H
    have c3b0 : ((l0.length : Int) == (l1.length : Int)) = true := beq_iff_eq.mpr c3
    have c3b1 : ((l0.length : Int) != (l1.length : Int)) = false := bne_eq_false_iff_eq.mpr c3
    have c3b2 : (l0.length == l1.length) = true := by first | simpa using c3 | (simp at c3 ⊢; omega)
    clear c3
    have H' := Aside0.mk H
    clear H
    go_enter Try.func137, Try.ntmps137
    go_wp2
    repeat (go_quiet (fail); try go_wp2)
    go_loopg [13] k (fun kq v13 w' => ∃ (x13_1 : Int), v13 = .int .i64 x13_1 ∧ Aside0 (slices_Equal_int64_int64.l0 kq l0 l1 (l0.length : Int) x13_1 = some r) ∧ Aside0 (kq ≤ k) ∧ Drawn0 w w')
    case atStart => exact ⟨(0), (by first | rfl | (simp; done) | (simp [*]; done)), H', ⟨Nat.le_refl _⟩, by repeat (first | exact Drawn0.refl _ | apply Drawn0.step)⟩
    case round =>
      clear H'
      try clear c1
      try clear p2
      try clear c3
      try clear c3b0
      try clear c3b1
      try clear c3b2
      obtain ⟨x13_1, rfl, HA, HK1, ⟨m1, rfl⟩⟩ := hrel
      cases gk with
      | zero => exact absurd HA.out (by simp [slices_Equal_int64_int64.l0])
      | succ k1 =>
        have H := HA.out
        clear HA
        simp only [slices_Equal_int64_int64.l0] at H
        by_cases c4 : x13_1 < (l0.length : Int)
        · rw [if_pos c4] at H
          have c4b0 : decide (x13_1 < (l0.length : Int)) = true := decide_eq_true c4
          clear c4
          by_cases c5 : 0 ≤ x13_1
          · rw [if_pos c5] at H
            have c5b0 : decide (0 ≤ x13_1) = true := decide_eq_true c5
            clear c5
            by_cases c6 : x13_1 < (l0.length : Int)
            · rw [if_pos c6] at H
              have c6b0 : decide (x13_1 < (l0.length : Int)) = true := decide_eq_true c6
              clear c6
              by_cases c7 : x13_1 < (l1.length : Int)
              · rw [if_pos c7] at H
                have c7b0 : decide (x13_1 < (l1.length : Int)) = true := decide_eq_true c7
                clear c7
                by_cases c8 : (rd l0 x13_1) = (rd l1 x13_1)
                · rw [if_pos c8] at H
                  have c8b0 : ((rd l0 x13_1) == (rd l1 x13_1)) = true := beq_iff_eq.mpr c8
                  have c8b1 : ((rd l0 x13_1) != (rd l1 x13_1)) = false := bne_eq_false_iff_eq.mpr c8
                  clear c8
                  have H' := Aside0.mk H
                  clear H
                  have p266 : 0 ≤ (x13_1 : Int) := od
                  have q266 : x13_1 < (l0.length : Int) := od
                  obtain ⟨ad266, e266, hx266_0⟩ := Kd.at_int HR0.out x13_1 p266 q266
                  cases e266
                  replace p266 := eq_true p266
                  replace q266 := eq_true q266
                  have p267 : 0 ≤ (x13_1 : Int) := od
                  have q267 : x13_1 < (l1.length : Int) := od
                  obtain ⟨ad267, e267, hx267_0⟩ := Kd.at_int HR1.out x13_1 p267 q267
                  cases e267
                  replace p267 := eq_true p267
                  replace q267 := eq_true q267
                  go_wp2
                  repeat (go_quiet (fail); try go_wp2)
                  go_roundg k1
                  case measure => have := HK1.out; omega
                  case rel => exact ⟨(wrap64 (x13_1 + 1)), (by first | rfl | (simp; done) | (simp [*]; done)), H', ⟨by have := HK1.out; omega⟩, by repeat (first | exact Drawn0.refl _ | apply Drawn0.step)⟩
                · rw [if_neg c8] at H
                  have c8b0 : ((rd l0 x13_1) == (rd l1 x13_1)) = false := beq_eq_false_iff_ne.mpr c8
                  have c8b1 : ((rd l0 x13_1) != (rd l1 x13_1)) = true := bne_iff_ne.mpr c8
                  obtain rfl := Option.some.inj H
                  have p266 : 0 ≤ (x13_1 : Int) := od
                  have q266 : x13_1 < (l0.length : Int) := od
                  obtain ⟨ad266, e266, hx266_0⟩ := Kd.at_int HR0.out x13_1 p266 q266
                  cases e266
                  replace p266 := eq_true p266
                  replace q266 := eq_true q266
                  have p267 : 0 ≤ (x13_1 : Int) := od
                  have q267 : x13_1 < (l1.length : Int) := od
                  obtain ⟨ad267, e267, hx267_0⟩ := Kd.at_int HR1.out x13_1 p267 q267
                  cases e267
                  replace p267 := eq_true p267
                  replace q267 := eq_true q267
                  go_wp2
                  repeat (go_quiet (fail); try go_wp2)
                  go_ret
                  exact ⟨by first | rfl | (simp; done) | (simp [*]; done), by repeat (first | exact Drawn0.refl _ | apply Drawn0.step)⟩
              · rw [if_neg c7] at H
                exact absurd H (by simp)
            · rw [if_neg c6] at H
              exact absurd H (by simp)
          · rw [if_neg c5] at H
            exact absurd H (by simp)
        · rw [if_neg c4] at H
          have c4b0 : decide (x13_1 < (l0.length : Int)) = false := decide_eq_false c4
          clear c4
          obtain rfl := Option.some.inj H
          go_wp2
          repeat (go_quiet (fail); try go_wp2)
          go_ret
          exact ⟨by first | rfl | (simp; done) | (simp [*]; done), by repeat (first | exact Drawn0.refl _ | apply Drawn0.step)⟩
  · rw [if_neg c3] at H
    have c3b0 : ((l0.length : Int) == (l1.length : Int)) = false := beq_eq_false_iff_ne.mpr c3
    have c3b1 : ((l0.length : Int) != (l1.length : Int)) = true := bne_iff_ne.mpr c3
    have c3b2 : (l0.length == l1.length) = false := by first | simpa using c3 | (simp at c3 ⊢; omega)
    obtain rfl := Option.some.inj H
    go_enter Try.func137, Try.ntmps137
    go_wp2
    repeat (go_quiet (fail); try go_wp2)
    go_ret
    exact ⟨by first | rfl | (simp; done) | (simp [*]; done), by repeat (first | exact Drawn0.refl _ | apply Drawn0.step)⟩

/-! ### impl_SameState_1: function 139 -/
def impl_SameState_1.f (k : Nat) (l0_0 : List (S130)) (a0_1 : Int) (a0_2 : Bool) (a0_3 : Int) (a0_4 : Int) (a0_5 : Int) (a0_6 : Int) (a0_7 : Int) (a0_8 : Int) (l1_0 : List (S130)) (a1_1 : Int) (a1_2 : Bool) (a1_3 : Int) (a1_4 : Int) (a1_5 : Int) (a1_6 : Int) (a1_7 : Int) (a1_8 : Int) : Option (Bool) := if (a0_1 == a1_1 && (a0_2 == a1_2 && ((a0_3 == a1_3 && (a0_4 == a1_4 && (a0_5 == a1_5))) && ((a0_6 == a1_6 && (a0_7 == a1_7 && (a0_8 == a1_8))))))) = true then ((impl_Point.f k l0_0 l1_0).bind fun t270 => (some t270)) else (some false)
theorem impl_SameState_1.mono : ∀ a0 a1 a2 a3 a4 a5 a6 a7 a8 a9 a10 a11 a12 a13 a14 a15 a16 a17 k, LeO (impl_SameState_1.f k a0 a1 a2 a3 a4 a5 a6 a7 a8 a9 a10 a11 a12 a13 a14 a15 a16 a17) (impl_SameState_1.f (k + 1) a0 a1 a2 a3 a4 a5 a6 a7 a8 a9 a10 a11 a12 a13 a14 a15 a16 a17) := by
  intro a0 a1 a2 a3 a4 a5 a6 a7 a8 a9 a10 a11 a12 a13 a14 a15 a16 a17 k
  unfold impl_SameState_1.f
  repeat' first
      | (with_reducible exact impl_Point.mono _ _ _)
      | (with_reducible exact LeO.refl _)
      | (with_reducible exact LeO.none _)
      | (with_reducible refine LeO.ite ?_ ?_)
      | (with_reducible refine LeO.bind ?_ (fun _ => ?_))
      | exact impl_Point.mono _ _ _
      | exact LeO.none _
      | refine LeO.ite ?_ ?_
      | refine LeO.bind ?_ (fun _ => ?_)
set_option maxHeartbeats 8000000 in
set_option maxRecDepth 100000 in
theorem impl_SameState_1.calls (k : Nat) (A0_0 : Option Addr) (c0_0 : Nat) (l0_0 : List (S130)) (a0_1 : Int) (a0_2 : Bool) (a0_3 : Int) (a0_4 : Int) (a0_5 : Int) (a0_6 : Int) (a0_7 : Int) (a0_8 : Int) (A1_0 : Option Addr) (c1_0 : Nat) (l1_0 : List (S130)) (a1_1 : Int) (a1_2 : Bool) (a1_3 : Int) (a1_4 : Int) (a1_5 : Int) (a1_6 : Int) (a1_7 : Int) (a1_8 : Int) (r : Bool) (w : World) (hr0_0 : Kd.C k130 w A0_0 l0_0.length l0_0) (hc0_0 : l0_0.length ≤ c0_0) (hr1_0 : Kd.C k130 w A1_0 l1_0.length l1_0) (hc1_0 : l1_0.length ≤ c1_0) (h : impl_SameState_1.f k l0_0 a0_1 a0_2 a0_3 a0_4 a0_5 a0_6 a0_7 a0_8 l1_0 a1_1 a1_2 a1_3 a1_4 a1_5 a1_6 a1_7 a1_8 = some r) :
    Calls Try.prog 139 #[.agg #[.slice A0_0 l0_0.length c0_0, .int .i64 a0_1, .bool a0_2, .int .i64 a0_3, .int .i64 a0_4, .int .i64 a0_5, .int .i64 a0_6, .int .i64 a0_7, .int .i64 a0_8], .agg #[.slice A1_0 l1_0.length c1_0, .int .i64 a1_1, .bool a1_2, .int .i64 a1_3, .int .i64 a1_4, .int .i64 a1_5, .int .i64 a1_6, .int .i64 a1_7, .int .i64 a1_8]] w fun e w' => e = .returned (.bool r) ∧ Below w.heap.size w w' := by
  have hu121 := Try.underlying121
  have hu118 := Try.underlying118
  have HR0_0 := Aside0.mk hr0_0
  have HC0_0 := Aside0.mk hc0_0
  clear hr0_0 hc0_0
  have HR1_0 := Aside0.mk hr1_0
  have HC1_0 := Aside0.mk hc1_0
  clear hr1_0 hc1_0
  have HB := Aside0.mk (Below.refl w.heap.size w)
  have H : (if (a0_1 == a1_1 && (a0_2 == a1_2 && ((a0_3 == a1_3 && (a0_4 == a1_4 && (a0_5 == a1_5))) && ((a0_6 == a1_6 && (a0_7 == a1_7 && (a0_8 == a1_8))))))) = true then ((impl_Point.f k l0_0 l1_0).bind fun t270 => (some t270)) else (some false)) = some r := h
  clear h
  by_cases c3 : (a0_1 == a1_1 && (a0_2 == a1_2 && ((a0_3 == a1_3 && (a0_4 == a1_4 && (a0_5 == a1_5))) && ((a0_6 == a1_6 && (a0_7 == a1_7 && (a0_8 == a1_8))))))) = true
  · rw [if_pos c3] at H
    have c3b0 : (a0_1 == a1_1 && (a0_2 == a1_2 && ((a0_3 == a1_3 && (a0_4 == a1_4 && (a0_5 == a1_5))) && ((a0_6 == a1_6 && (a0_7 == a1_7 && (a0_8 == a1_8))))))) = true := c3
    (try (have c3b1 : decide (a0_1 = a1_1 && (a0_2 == a1_2 && ((a0_3 == a1_3 && (a0_4 == a1_4 && (a0_5 == a1_5))) && ((a0_6 == a1_6 && (a0_7 == a1_7 && (a0_8 == a1_8))))))) = true := by simpa using c3))
    (try (have c3b2 : (a0_1 == a1_1 && (a0_2 == a1_2 && ((a0_3 == a1_3 && (a0_4 == a1_4 && (a0_5 == a1_5))) && ((a0_6 == a1_6 && (a0_7 == a1_7 && (a0_8 == a1_8))))))) = true := by simpa using c3))
    clear c3
    replace H := Option.bind_eq_some_iff.mp H
    obtain ⟨t270, A40, H⟩ := H
    replace H : (some t270) = some r := H
    have A4 := Aside0.mk A40
    clear A40
    obtain rfl := Option.some.inj H
    go_enter Try.func139, Try.ntmps139
    go_wp2_with (first | ((with_reducible refine gate_dst (N := 2) rfl ?_); refine bx #[.slice A0_0 l0_0.length c0_0, .int .i64 a0_1, .bool a0_2, .int .i64 a0_3, .int .i64 a0_4, .int .i64 a0_5, .int .i64 a0_6, .int .i64 a0_7, .int .i64 a0_8] 121 ?_; intro gb268 hg w5 hbox hb; have BK268 := Aside0.mk hbox; have GW268 := bg hg; have GE268 := bg hg; replace HB := bs hb; clear hb hbox hg) | ((with_reducible refine gate_dst (N := 3) rfl ?_); refine bx #[.slice A1_0 l1_0.length c1_0, .int .i64 a1_1, .bool a1_2, .int .i64 a1_3, .int .i64 a1_4, .int .i64 a1_5, .int .i64 a1_6, .int .i64 a1_7, .int .i64 a1_8] 121 ?_; intro gb269 hg w6 hbox hb; have BK269 := Aside0.mk hbox; have GW269 := bg hg; have GE269 := bg hg; have NB268_269 := bl BK268 hg; have NB269_268 := bv BK268 hg; replace BK268 := bb BK268 hb; replace HB := bs hb; clear hb hbox hg; have hnb7 := NB268_269.out; have hnc7 := NB269_268.out; obtain ⟨z8_0, z8_1, z8_2, z8_3, z8_4, z8_5, z8_6, z8_7, z8_8, y8_0, y8_1, y8_2, y8_3, y8_4, y8_5, y8_6, y8_7, y8_8⟩ := bq9 BK268; obtain ⟨z9_0, z9_1, z9_2, z9_3, z9_4, z9_5, z9_6, z9_7, z9_8, y9_0, y9_1, y9_2, y9_3, y9_4, y9_5, y9_6, y9_7, y9_8⟩ := bq9 BK269) | (go_at_call 136; (with_reducible refine (impl_Point.calls k _ _ l0_0 _ _ l1_0 t270 _ ?side1 ?side2 ?side3 ?side4 A4.out).mono ?_); (case side1 => exact sd HR0_0); (case side2 => exact HC0_0.out); (case side3 => exact sd HR1_0); (case side4 => exact HC1_0.out); rintro e w' ⟨rfl, ⟨nd, rfl⟩⟩))
    go_ret
    exact ⟨er, bw⟩
  · rw [if_neg c3] at H
    have c3b0 : (a0_1 == a1_1 && (a0_2 == a1_2 && ((a0_3 == a1_3 && (a0_4 == a1_4 && (a0_5 == a1_5))) && ((a0_6 == a1_6 && (a0_7 == a1_7 && (a0_8 == a1_8))))))) = false := by simpa using c3
    (try (have c3b1 : decide (a0_1 = a1_1 && (a0_2 == a1_2 && ((a0_3 == a1_3 && (a0_4 == a1_4 && (a0_5 == a1_5))) && ((a0_6 == a1_6 && (a0_7 == a1_7 && (a0_8 == a1_8))))))) = false := by simpa using c3))
    (try (have c3b2 : (a0_1 == a1_1 && (a0_2 == a1_2 && ((a0_3 == a1_3 && (a0_4 == a1_4 && (a0_5 == a1_5))) && ((a0_6 == a1_6 && (a0_7 == a1_7 && (a0_8 == a1_8))))))) = false := by simpa using c3))
    (try (have c3b3 : ¬ (a0_1 = a1_1 && (a0_2 == a1_2 && ((a0_3 == a1_3 && (a0_4 == a1_4 && (a0_5 == a1_5))) && ((a0_6 == a1_6 && (a0_7 == a1_7 && (a0_8 == a1_8))))))) := by simpa using c3))
    clear c3
    obtain rfl := Option.some.inj H
    go_enter Try.func139, Try.ntmps139
    go_wp2_with (first | ((with_reducible refine gate_dst (N := 2) rfl ?_); refine bx #[.slice A0_0 l0_0.length c0_0, .int .i64 a0_1, .bool a0_2, .int .i64 a0_3, .int .i64 a0_4, .int .i64 a0_5, .int .i64 a0_6, .int .i64 a0_7, .int .i64 a0_8] 121 ?_; intro gb268 hg w10 hbox hb; have BK268 := Aside0.mk hbox; have GW268 := bg hg; have GE268 := bg hg; replace HB := bs hb; clear hb hbox hg) | ((with_reducible refine gate_dst (N := 3) rfl ?_); refine bx #[.slice A1_0 l1_0.length c1_0, .int .i64 a1_1, .bool a1_2, .int .i64 a1_3, .int .i64 a1_4, .int .i64 a1_5, .int .i64 a1_6, .int .i64 a1_7, .int .i64 a1_8] 121 ?_; intro gb269 hg w11 hbox hb; have BK269 := Aside0.mk hbox; have GW269 := bg hg; have GE269 := bg hg; have NB268_269 := bl BK268 hg; have NB269_268 := bv BK268 hg; replace BK268 := bb BK268 hb; replace HB := bs hb; clear hb hbox hg; have hnb12 := NB268_269.out; have hnc12 := NB269_268.out; obtain ⟨z13_0, z13_1, z13_2, z13_3, z13_4, z13_5, z13_6, z13_7, z13_8, y13_0, y13_1, y13_2, y13_3, y13_4, y13_5, y13_6, y13_7, y13_8⟩ := bq9 BK268; obtain ⟨z14_0, z14_1, z14_2, z14_3, z14_4, z14_5, z14_6, z14_7, z14_8, y14_0, y14_1, y14_2, y14_3, y14_4, y14_5, y14_6, y14_7, y14_8⟩ := bq9 BK269))
    go_ret
    exact ⟨er, bw⟩

/-! ### impl_Face_impl_SameState_1: function 138 -/
def impl_Face_impl_SameState_1.l0 : Nat → List (S121) → List (S121) → Int → Int → Option (Bool)
  | 0, _, _, _, _ => none
  | k + 1, x1, x15, x16, x17 => if x17 < x16 then (if 0 ≤ x17 then (if x17 < (x15.length : Int) then (if x17 < (x1.length : Int) then ((impl_SameState_1.f k ((rd_T121 x15 x17).f0) ((rd_T121 x15 x17).f1.f0) ((rd_T121 x15 x17).f1.f1) ((rd_T121 x15 x17).f1.f2.f0) ((rd_T121 x15 x17).f1.f2.f1) ((rd_T121 x15 x17).f1.f2.f2) ((rd_T121 x15 x17).f1.f3.f0) ((rd_T121 x15 x17).f1.f3.f1) ((rd_T121 x15 x17).f1.f3.f2) ((rd_T121 x1 x17).f0) ((rd_T121 x1 x17).f1.f0) ((rd_T121 x1 x17).f1.f1) ((rd_T121 x1 x17).f1.f2.f0) ((rd_T121 x1 x17).f1.f2.f1) ((rd_T121 x1 x17).f1.f2.f2) ((rd_T121 x1 x17).f1.f3.f0) ((rd_T121 x1 x17).f1.f3.f1) ((rd_T121 x1 x17).f1.f3.f2)).bind fun t275 => (if t275 = true then (impl_Face_impl_SameState_1.l0 k x1 x15 x16 (wrap64 (x17 + 1))) else (some false))) else (none)) else (none)) else (none)) else (some true)
def impl_Face_impl_SameState_1.f (k : Nat) (l0 : List (S121)) (l1 : List (S121))  : Option (Bool) := if (l0.length : Int) = (l1.length : Int) then (impl_Face_impl_SameState_1.l0 k l1 l0 (l0.length : Int) 0) else (some false)
theorem impl_Face_impl_SameState_1.mono_l : ∀ k, (∀ y0 y1 y2 y3, LeO (impl_Face_impl_SameState_1.l0 k y0 y1 y2 y3) (impl_Face_impl_SameState_1.l0 (k + 1) y0 y1 y2 y3))
  | 0 => fun _ _ _ _ r h => by simp [impl_Face_impl_SameState_1.l0] at h
  | k + 1 => by
    have ih0 := impl_Face_impl_SameState_1.mono_l k
    · intro y0 y1 y2 y3
      unfold impl_Face_impl_SameState_1.l0
      repeat' first
      | (with_reducible exact ih0 _ _ _ _)
      | (with_reducible exact impl_SameState_1.mono _ _ _ _ _ _ _ _ _ _ _ _ _ _ _ _ _ _ _)
      | (with_reducible exact LeO.refl _)
      | (with_reducible exact LeO.none _)
      | (with_reducible refine LeO.ite ?_ ?_)
      | (with_reducible refine LeO.bind ?_ (fun _ => ?_))
      | exact ih0 _ _ _ _
      | exact impl_SameState_1.mono _ _ _ _ _ _ _ _ _ _ _ _ _ _ _ _ _ _ _
      | exact LeO.none _
      | refine LeO.ite ?_ ?_
      | refine LeO.bind ?_ (fun _ => ?_)
theorem impl_Face_impl_SameState_1.mono : ∀ a0 a1 k, LeO (impl_Face_impl_SameState_1.f k a0 a1) (impl_Face_impl_SameState_1.f (k + 1) a0 a1) := by
  intro a0 a1 k
  have ih0 := impl_Face_impl_SameState_1.mono_l k
  unfold impl_Face_impl_SameState_1.f
  repeat' first
      | (with_reducible exact ih0 _ _ _ _)
      | (with_reducible exact impl_SameState_1.mono _ _ _ _ _ _ _ _ _ _ _ _ _ _ _ _ _ _ _)
      | (with_reducible exact LeO.refl _)
      | (with_reducible exact LeO.none _)
      | (with_reducible refine LeO.ite ?_ ?_)
      | (with_reducible refine LeO.bind ?_ (fun _ => ?_))
      | exact ih0 _ _ _ _
      | exact impl_SameState_1.mono _ _ _ _ _ _ _ _ _ _ _ _ _ _ _ _ _ _ _
      | exact LeO.none _
      | refine LeO.ite ?_ ?_
      | refine LeO.bind ?_ (fun _ => ?_)
set_option maxHeartbeats 8000000 in
set_option maxRecDepth 100000 in
theorem impl_Face_impl_SameState_1.calls (k : Nat) (A0 : Option Addr) (c0 : Nat) (l0 : List (S121)) (A1 : Option Addr) (c1 : Nat) (l1 : List (S121))  (r : Bool) (w : World) (hr0 : Kd.C k121 w A0 l0.length l0) (hc0 : l0.length ≤ c0) (hr1 : Kd.C k121 w A1 l1.length l1) (hc1 : l1.length ≤ c1) (h : impl_Face_impl_SameState_1.f k l0 l1 = some r) :
    Calls Try.prog 138 #[.slice A0 l0.length c0, .slice A1 l1.length c1, .func (.func 139) #[] #[]] w fun e w' => e = .returned (.bool r) ∧ Below w.heap.size w w' := by
  have hu121 := Try.underlying121
  have HR0 := Aside0.mk hr0
  have HC0 := Aside0.mk hc0
  clear hr0 hc0
  have HR1 := Aside0.mk hr1
  have HC1 := Aside0.mk hc1
  clear hr1 hc1
  have HB := Aside0.mk (Below.refl w.heap.size w)
  have H : (if (l0.length : Int) = (l1.length : Int) then (impl_Face_impl_SameState_1.l0 k l1 l0 (l0.length : Int) 0) else (some false)) = some r := h
  clear h
  by_cases c4 : (l0.length : Int) = (l1.length : Int)
  · rw [if_pos c4] at H
    have c4b0 : ((l0.length : Int) == (l1.length : Int)) = true := beq_iff_eq.mpr c4
    have c4b1 : ((l0.length : Int) != (l1.length : Int)) = false := bne_eq_false_iff_eq.mpr c4
    have c4b2 : (l0.length == l1.length) = true := by first | simpa using c4 | (simp at c4 ⊢; omega)
    clear c4
    have H' := Aside0.mk H
    clear H
    go_enter Try.func138, Try.ntmps138
    go_wp2
    go_loopg [17] k (fun kq v17 w' => ∃ (x17_1 : Int), v17 = .int .i64 x17_1 ∧ Aside0 (impl_Face_impl_SameState_1.l0 kq l1 l0 (l0.length : Int) x17_1 = some r) ∧ Aside0 (kq ≤ k) ∧ Aside0 (Below w.heap.size w w'))
    case atStart => exact ⟨(0), (by first | rfl | (simp; done) | (simp [*]; done)), H', ⟨Nat.le_refl _⟩, ⟨bw⟩⟩
    case round =>
      clear H'
      try clear c1
      try clear p2
      try clear c4
      try clear c4b0
      try clear c4b1
      try clear c4b2
      obtain ⟨x17_1, rfl, HA, HK1, HB⟩ := hrel
      cases gk with
      | zero => exact absurd HA.out (by simp [impl_Face_impl_SameState_1.l0])
      | succ k1 =>
        have H := HA.out
        clear HA
        simp only [impl_Face_impl_SameState_1.l0] at H
        by_cases c5 : x17_1 < (l0.length : Int)
        · rw [if_pos c5] at H
          have c5b0 : decide (x17_1 < (l0.length : Int)) = true := decide_eq_true c5
          clear c5
          by_cases c6 : 0 ≤ x17_1
          · rw [if_pos c6] at H
            have c6b0 : decide (0 ≤ x17_1) = true := decide_eq_true c6
            clear c6
            by_cases c7 : x17_1 < (l0.length : Int)
            · rw [if_pos c7] at H
              have c7b0 : decide (x17_1 < (l0.length : Int)) = true := decide_eq_true c7
              clear c7
              by_cases c8 : x17_1 < (l1.length : Int)
              · rw [if_pos c8] at H
                have c8b0 : decide (x17_1 < (l1.length : Int)) = true := decide_eq_true c8
                clear c8
                replace H := Option.bind_eq_some_iff.mp H
                obtain ⟨t275, A90, H⟩ := H
                replace H : (if t275 = true then (impl_Face_impl_SameState_1.l0 k1 l1 l0 (l0.length : Int) (wrap64 (x17_1 + 1))) else (some false)) = some r := H
                have A9 := Aside0.mk A90
                clear A90
                by_cases c10 : t275 = true
                · subst c10
                  rw [if_pos rfl] at H
                  have H' := Aside0.mk H
                  clear H
                  have p271 : 0 ≤ (x17_1 : Int) := od
                  have q271 : x17_1 < (l0.length : Int) := od
                  obtain ⟨ad271, A271_0, c271_0, e271, hx271_0, hx271_1, hx271_2, hx271_3, hx271_4, hx271_5, hx271_6, hx271_7, hx271_8, hl271_0, hi271_0⟩ := at_T121 HR0.out x17_1 p271 q271
                  cases e271
                  replace hx271_0 := bc hx271_0
                  replace hx271_1 := bc hx271_1
                  replace hx271_2 := bc hx271_2
                  replace hx271_3 := bc hx271_3
                  replace hx271_4 := bc hx271_4
                  replace hx271_5 := bc hx271_5
                  replace hx271_6 := bc hx271_6
                  replace hx271_7 := bc hx271_7
                  replace hx271_8 := bc hx271_8
                  have HR271_0 := Aside0.mk hi271_0
                  have HC271_0 := Aside0.mk hl271_0
                  clear hi271_0 hl271_0
                  replace p271 := eq_true p271
                  replace q271 := eq_true q271
                  go_wp2_with (first | ((with_reducible refine gate_dst (N := 8) rfl ?_); refine bx #[.slice none 0 0, .int .i64 0, .bool false, .int .i64 0, .int .i64 0, .int .i64 0, .int .i64 0, .int .i64 0, .int .i64 0] 121 ?_; intro gb272 hg w11 hbox hb; have BK272 := Aside0.mk hbox; have GW272 := bg hg; have GE272 := bg hg; replace HB := bs hb; clear hb hbox hg; obtain ⟨z12_0, z12_1, z12_2, z12_3, z12_4, z12_5, z12_6, z12_7, z12_8, y12_0, y12_1, y12_2, y12_3, y12_4, y12_5, y12_6, y12_7, y12_8⟩ := bq9 BK272; have p273 : 0 ≤ (x17_1 : Int) := od; have q273 : x17_1 < (l1.length : Int) := od; obtain ⟨ad273, A273_0, c273_0, e273, hx273_0, hx273_1, hx273_2, hx273_3, hx273_4, hx273_5, hx273_6, hx273_7, hx273_8, hl273_0, hi273_0⟩ := at_T121 HR1.out x17_1 p273 q273; cases e273; have hn273_0 : ad273.block ≠ gb272 := Nat.ne_of_lt (Nat.lt_of_lt_of_le (by have := World.block_lt_of_cell? _ _ hx273_0; first | rwa [add_block] at this | exact this) GW272.out); have hn273_1 : ad273.block ≠ gb272 := Nat.ne_of_lt (Nat.lt_of_lt_of_le (by have := World.block_lt_of_cell? _ _ hx273_0; first | rwa [add_block] at this | exact this) GW272.out); have hn273_2 : ad273.block ≠ gb272 := Nat.ne_of_lt (Nat.lt_of_lt_of_le (by have := World.block_lt_of_cell? _ _ hx273_0; first | rwa [add_block] at this | exact this) GW272.out); have hn273_3 : ad273.block ≠ gb272 := Nat.ne_of_lt (Nat.lt_of_lt_of_le (by have := World.block_lt_of_cell? _ _ hx273_0; first | rwa [add_block] at this | exact this) GW272.out); have hn273_4 : ad273.block ≠ gb272 := Nat.ne_of_lt (Nat.lt_of_lt_of_le (by have := World.block_lt_of_cell? _ _ hx273_0; first | rwa [add_block] at this | exact this) GW272.out); have hn273_5 : ad273.block ≠ gb272 := Nat.ne_of_lt (Nat.lt_of_lt_of_le (by have := World.block_lt_of_cell? _ _ hx273_0; first | rwa [add_block] at this | exact this) GW272.out); have hn273_6 : ad273.block ≠ gb272 := Nat.ne_of_lt (Nat.lt_of_lt_of_le (by have := World.block_lt_of_cell? _ _ hx273_0; first | rwa [add_block] at this | exact this) GW272.out); have hn273_7 : ad273.block ≠ gb272 := Nat.ne_of_lt (Nat.lt_of_lt_of_le (by have := World.block_lt_of_cell? _ _ hx273_0; first | rwa [add_block] at this | exact this) GW272.out); have hn273_8 : ad273.block ≠ gb272 := Nat.ne_of_lt (Nat.lt_of_lt_of_le (by have := World.block_lt_of_cell? _ _ hx273_0; first | rwa [add_block] at this | exact this) GW272.out); replace hx273_0 := bc hx273_0; replace hx273_1 := bc hx273_1; replace hx273_2 := bc hx273_2; replace hx273_3 := bc hx273_3; replace hx273_4 := bc hx273_4; replace hx273_5 := bc hx273_5; replace hx273_6 := bc hx273_6; replace hx273_7 := bc hx273_7; replace hx273_8 := bc hx273_8; have HR273_0 := Aside0.mk hi273_0; have HC273_0 := Aside0.mk hl273_0; clear hi273_0 hl273_0; replace hx273_0 := cf ⟨gb272, 0, none⟩ (.slice A271_0 ((rd_T121 l0 x17_1).f0).length c271_0) hn273_0 hx273_0; replace hx273_1 := cf ⟨gb272, 0, none⟩ (.slice A271_0 ((rd_T121 l0 x17_1).f0).length c271_0) hn273_0 hx273_1; replace hx273_2 := cf ⟨gb272, 0, none⟩ (.slice A271_0 ((rd_T121 l0 x17_1).f0).length c271_0) hn273_0 hx273_2; replace hx273_3 := cf ⟨gb272, 0, none⟩ (.slice A271_0 ((rd_T121 l0 x17_1).f0).length c271_0) hn273_0 hx273_3; replace hx273_4 := cf ⟨gb272, 0, none⟩ (.slice A271_0 ((rd_T121 l0 x17_1).f0).length c271_0) hn273_0 hx273_4; replace hx273_5 := cf ⟨gb272, 0, none⟩ (.slice A271_0 ((rd_T121 l0 x17_1).f0).length c271_0) hn273_0 hx273_5; replace hx273_6 := cf ⟨gb272, 0, none⟩ (.slice A271_0 ((rd_T121 l0 x17_1).f0).length c271_0) hn273_0 hx273_6; replace hx273_7 := cf ⟨gb272, 0, none⟩ (.slice A271_0 ((rd_T121 l0 x17_1).f0).length c271_0) hn273_0 hx273_7; replace hx273_8 := cf ⟨gb272, 0, none⟩ (.slice A271_0 ((rd_T121 l0 x17_1).f0).length c271_0) hn273_0 hx273_8; replace hx273_0 := cf ⟨gb272, 1, none⟩ (.int .i64 ((rd_T121 l0 x17_1).f1.f0)) hn273_1 hx273_0; replace hx273_1 := cf ⟨gb272, 1, none⟩ (.int .i64 ((rd_T121 l0 x17_1).f1.f0)) hn273_1 hx273_1; replace hx273_2 := cf ⟨gb272, 1, none⟩ (.int .i64 ((rd_T121 l0 x17_1).f1.f0)) hn273_1 hx273_2; replace hx273_3 := cf ⟨gb272, 1, none⟩ (.int .i64 ((rd_T121 l0 x17_1).f1.f0)) hn273_1 hx273_3; replace hx273_4 := cf ⟨gb272, 1, none⟩ (.int .i64 ((rd_T121 l0 x17_1).f1.f0)) hn273_1 hx273_4; replace hx273_5 := cf ⟨gb272, 1, none⟩ (.int .i64 ((rd_T121 l0 x17_1).f1.f0)) hn273_1 hx273_5; replace hx273_6 := cf ⟨gb272, 1, none⟩ (.int .i64 ((rd_T121 l0 x17_1).f1.f0)) hn273_1 hx273_6; replace hx273_7 := cf ⟨gb272, 1, none⟩ (.int .i64 ((rd_T121 l0 x17_1).f1.f0)) hn273_1 hx273_7; replace hx273_8 := cf ⟨gb272, 1, none⟩ (.int .i64 ((rd_T121 l0 x17_1).f1.f0)) hn273_1 hx273_8; replace hx273_0 := cf ⟨gb272, 2, none⟩ (.bool ((rd_T121 l0 x17_1).f1.f1)) hn273_2 hx273_0; replace hx273_1 := cf ⟨gb272, 2, none⟩ (.bool ((rd_T121 l0 x17_1).f1.f1)) hn273_2 hx273_1; replace hx273_2 := cf ⟨gb272, 2, none⟩ (.bool ((rd_T121 l0 x17_1).f1.f1)) hn273_2 hx273_2; replace hx273_3 := cf ⟨gb272, 2, none⟩ (.bool ((rd_T121 l0 x17_1).f1.f1)) hn273_2 hx273_3; replace hx273_4 := cf ⟨gb272, 2, none⟩ (.bool ((rd_T121 l0 x17_1).f1.f1)) hn273_2 hx273_4; replace hx273_5 := cf ⟨gb272, 2, none⟩ (.bool ((rd_T121 l0 x17_1).f1.f1)) hn273_2 hx273_5; replace hx273_6 := cf ⟨gb272, 2, none⟩ (.bool ((rd_T121 l0 x17_1).f1.f1)) hn273_2 hx273_6; replace hx273_7 := cf ⟨gb272, 2, none⟩ (.bool ((rd_T121 l0 x17_1).f1.f1)) hn273_2 hx273_7; replace hx273_8 := cf ⟨gb272, 2, none⟩ (.bool ((rd_T121 l0 x17_1).f1.f1)) hn273_2 hx273_8; replace hx273_0 := cf ⟨gb272, 3, none⟩ (.int .i64 ((rd_T121 l0 x17_1).f1.f2.f0)) hn273_3 hx273_0; replace hx273_1 := cf ⟨gb272, 3, none⟩ (.int .i64 ((rd_T121 l0 x17_1).f1.f2.f0)) hn273_3 hx273_1; replace hx273_2 := cf ⟨gb272, 3, none⟩ (.int .i64 ((rd_T121 l0 x17_1).f1.f2.f0)) hn273_3 hx273_2; replace hx273_3 := cf ⟨gb272, 3, none⟩ (.int .i64 ((rd_T121 l0 x17_1).f1.f2.f0)) hn273_3 hx273_3; replace hx273_4 := cf ⟨gb272, 3, none⟩ (.int .i64 ((rd_T121 l0 x17_1).f1.f2.f0)) hn273_3 hx273_4; replace hx273_5 := cf ⟨gb272, 3, none⟩ (.int .i64 ((rd_T121 l0 x17_1).f1.f2.f0)) hn273_3 hx273_5; replace hx273_6 := cf ⟨gb272, 3, none⟩ (.int .i64 ((rd_T121 l0 x17_1).f1.f2.f0)) hn273_3 hx273_6; replace hx273_7 := cf ⟨gb272, 3, none⟩ (.int .i64 ((rd_T121 l0 x17_1).f1.f2.f0)) hn273_3 hx273_7; replace hx273_8 := cf ⟨gb272, 3, none⟩ (.int .i64 ((rd_T121 l0 x17_1).f1.f2.f0)) hn273_3 hx273_8; replace hx273_0 := cf ⟨gb272, 4, none⟩ (.int .i64 ((rd_T121 l0 x17_1).f1.f2.f1)) hn273_4 hx273_0; replace hx273_1 := cf ⟨gb272, 4, none⟩ (.int .i64 ((rd_T121 l0 x17_1).f1.f2.f1)) hn273_4 hx273_1; replace hx273_2 := cf ⟨gb272, 4, none⟩ (.int .i64 ((rd_T121 l0 x17_1).f1.f2.f1)) hn273_4 hx273_2; replace hx273_3 := cf ⟨gb272, 4, none⟩ (.int .i64 ((rd_T121 l0 x17_1).f1.f2.f1)) hn273_4 hx273_3; replace hx273_4 := cf ⟨gb272, 4, none⟩ (.int .i64 ((rd_T121 l0 x17_1).f1.f2.f1)) hn273_4 hx273_4; replace hx273_5 := cf ⟨gb272, 4, none⟩ (.int .i64 ((rd_T121 l0 x17_1).f1.f2.f1)) hn273_4 hx273_5; replace hx273_6 := cf ⟨gb272, 4, none⟩ (.int .i64 ((rd_T121 l0 x17_1).f1.f2.f1)) hn273_4 hx273_6; replace hx273_7 := cf ⟨gb272, 4, none⟩ (.int .i64 ((rd_T121 l0 x17_1).f1.f2.f1)) hn273_4 hx273_7; replace hx273_8 := cf ⟨gb272, 4, none⟩ (.int .i64 ((rd_T121 l0 x17_1).f1.f2.f1)) hn273_4 hx273_8; replace hx273_0 := cf ⟨gb272, 5, none⟩ (.int .i64 ((rd_T121 l0 x17_1).f1.f2.f2)) hn273_5 hx273_0; replace hx273_1 := cf ⟨gb272, 5, none⟩ (.int .i64 ((rd_T121 l0 x17_1).f1.f2.f2)) hn273_5 hx273_1; replace hx273_2 := cf ⟨gb272, 5, none⟩ (.int .i64 ((rd_T121 l0 x17_1).f1.f2.f2)) hn273_5 hx273_2; replace hx273_3 := cf ⟨gb272, 5, none⟩ (.int .i64 ((rd_T121 l0 x17_1).f1.f2.f2)) hn273_5 hx273_3; replace hx273_4 := cf ⟨gb272, 5, none⟩ (.int .i64 ((rd_T121 l0 x17_1).f1.f2.f2)) hn273_5 hx273_4; replace hx273_5 := cf ⟨gb272, 5, none⟩ (.int .i64 ((rd_T121 l0 x17_1).f1.f2.f2)) hn273_5 hx273_5; replace hx273_6 := cf ⟨gb272, 5, none⟩ (.int .i64 ((rd_T121 l0 x17_1).f1.f2.f2)) hn273_5 hx273_6; replace hx273_7 := cf ⟨gb272, 5, none⟩ (.int .i64 ((rd_T121 l0 x17_1).f1.f2.f2)) hn273_5 hx273_7; replace hx273_8 := cf ⟨gb272, 5, none⟩ (.int .i64 ((rd_T121 l0 x17_1).f1.f2.f2)) hn273_5 hx273_8; replace hx273_0 := cf ⟨gb272, 6, none⟩ (.int .i64 ((rd_T121 l0 x17_1).f1.f3.f0)) hn273_6 hx273_0; replace hx273_1 := cf ⟨gb272, 6, none⟩ (.int .i64 ((rd_T121 l0 x17_1).f1.f3.f0)) hn273_6 hx273_1; replace hx273_2 := cf ⟨gb272, 6, none⟩ (.int .i64 ((rd_T121 l0 x17_1).f1.f3.f0)) hn273_6 hx273_2; replace hx273_3 := cf ⟨gb272, 6, none⟩ (.int .i64 ((rd_T121 l0 x17_1).f1.f3.f0)) hn273_6 hx273_3; replace hx273_4 := cf ⟨gb272, 6, none⟩ (.int .i64 ((rd_T121 l0 x17_1).f1.f3.f0)) hn273_6 hx273_4; replace hx273_5 := cf ⟨gb272, 6, none⟩ (.int .i64 ((rd_T121 l0 x17_1).f1.f3.f0)) hn273_6 hx273_5; replace hx273_6 := cf ⟨gb272, 6, none⟩ (.int .i64 ((rd_T121 l0 x17_1).f1.f3.f0)) hn273_6 hx273_6; replace hx273_7 := cf ⟨gb272, 6, none⟩ (.int .i64 ((rd_T121 l0 x17_1).f1.f3.f0)) hn273_6 hx273_7; replace hx273_8 := cf ⟨gb272, 6, none⟩ (.int .i64 ((rd_T121 l0 x17_1).f1.f3.f0)) hn273_6 hx273_8; replace hx273_0 := cf ⟨gb272, 7, none⟩ (.int .i64 ((rd_T121 l0 x17_1).f1.f3.f1)) hn273_7 hx273_0; replace hx273_1 := cf ⟨gb272, 7, none⟩ (.int .i64 ((rd_T121 l0 x17_1).f1.f3.f1)) hn273_7 hx273_1; replace hx273_2 := cf ⟨gb272, 7, none⟩ (.int .i64 ((rd_T121 l0 x17_1).f1.f3.f1)) hn273_7 hx273_2; replace hx273_3 := cf ⟨gb272, 7, none⟩ (.int .i64 ((rd_T121 l0 x17_1).f1.f3.f1)) hn273_7 hx273_3; replace hx273_4 := cf ⟨gb272, 7, none⟩ (.int .i64 ((rd_T121 l0 x17_1).f1.f3.f1)) hn273_7 hx273_4; replace hx273_5 := cf ⟨gb272, 7, none⟩ (.int .i64 ((rd_T121 l0 x17_1).f1.f3.f1)) hn273_7 hx273_5; replace hx273_6 := cf ⟨gb272, 7, none⟩ (.int .i64 ((rd_T121 l0 x17_1).f1.f3.f1)) hn273_7 hx273_6; replace hx273_7 := cf ⟨gb272, 7, none⟩ (.int .i64 ((rd_T121 l0 x17_1).f1.f3.f1)) hn273_7 hx273_7; replace hx273_8 := cf ⟨gb272, 7, none⟩ (.int .i64 ((rd_T121 l0 x17_1).f1.f3.f1)) hn273_7 hx273_8; replace hx273_0 := cf ⟨gb272, 8, none⟩ (.int .i64 ((rd_T121 l0 x17_1).f1.f3.f2)) hn273_8 hx273_0; replace hx273_1 := cf ⟨gb272, 8, none⟩ (.int .i64 ((rd_T121 l0 x17_1).f1.f3.f2)) hn273_8 hx273_1; replace hx273_2 := cf ⟨gb272, 8, none⟩ (.int .i64 ((rd_T121 l0 x17_1).f1.f3.f2)) hn273_8 hx273_2; replace hx273_3 := cf ⟨gb272, 8, none⟩ (.int .i64 ((rd_T121 l0 x17_1).f1.f3.f2)) hn273_8 hx273_3; replace hx273_4 := cf ⟨gb272, 8, none⟩ (.int .i64 ((rd_T121 l0 x17_1).f1.f3.f2)) hn273_8 hx273_4; replace hx273_5 := cf ⟨gb272, 8, none⟩ (.int .i64 ((rd_T121 l0 x17_1).f1.f3.f2)) hn273_8 hx273_5; replace hx273_6 := cf ⟨gb272, 8, none⟩ (.int .i64 ((rd_T121 l0 x17_1).f1.f3.f2)) hn273_8 hx273_6; replace hx273_7 := cf ⟨gb272, 8, none⟩ (.int .i64 ((rd_T121 l0 x17_1).f1.f3.f2)) hn273_8 hx273_7; replace hx273_8 := cf ⟨gb272, 8, none⟩ (.int .i64 ((rd_T121 l0 x17_1).f1.f3.f2)) hn273_8 hx273_8; clear hn273_0; clear hn273_1; clear hn273_2; clear hn273_3; clear hn273_4; clear hn273_5; clear hn273_6; clear hn273_7; clear hn273_8; replace p273 := eq_true p273; replace q273 := eq_true q273) | ((with_reducible refine gate_dst (N := 9) rfl ?_); refine bx #[.slice none 0 0, .int .i64 0, .bool false, .int .i64 0, .int .i64 0, .int .i64 0, .int .i64 0, .int .i64 0, .int .i64 0] 121 ?_; intro gb274 hg w13 hbox hb; have BK274 := Aside0.mk hbox; have GW274 := bg hg; have GE274 := bg hg; have NB272_274 := Aside0.mk ((by rw [hg]; exact Nat.ne_of_lt (blk_lt (g := gb272) (o := .cells #[.slice A271_0 ((rd_T121 l0 x17_1).f0).length c271_0, .int .i64 ((rd_T121 l0 x17_1).f1.f0), .bool ((rd_T121 l0 x17_1).f1.f1), .int .i64 ((rd_T121 l0 x17_1).f1.f2.f0), .int .i64 ((rd_T121 l0 x17_1).f1.f2.f1), .int .i64 ((rd_T121 l0 x17_1).f1.f2.f2), .int .i64 ((rd_T121 l0 x17_1).f1.f3.f0), .int .i64 ((rd_T121 l0 x17_1).f1.f3.f1), .int .i64 ((rd_T121 l0 x17_1).f1.f3.f2)] 121 (0, 0)) (by refine bk (h := ?_); refine blk_put (cs := #[.slice A271_0 ((rd_T121 l0 x17_1).f0).length c271_0, .int .i64 ((rd_T121 l0 x17_1).f1.f0), .bool ((rd_T121 l0 x17_1).f1.f1), .int .i64 ((rd_T121 l0 x17_1).f1.f2.f0), .int .i64 ((rd_T121 l0 x17_1).f1.f2.f1), .int .i64 ((rd_T121 l0 x17_1).f1.f2.f2), .int .i64 ((rd_T121 l0 x17_1).f1.f3.f0), .int .i64 ((rd_T121 l0 x17_1).f1.f3.f1), .int .i64 0]) ?_ 8 _ rfl; refine bk (h := ?_); refine blk_put (cs := #[.slice A271_0 ((rd_T121 l0 x17_1).f0).length c271_0, .int .i64 ((rd_T121 l0 x17_1).f1.f0), .bool ((rd_T121 l0 x17_1).f1.f1), .int .i64 ((rd_T121 l0 x17_1).f1.f2.f0), .int .i64 ((rd_T121 l0 x17_1).f1.f2.f1), .int .i64 ((rd_T121 l0 x17_1).f1.f2.f2), .int .i64 ((rd_T121 l0 x17_1).f1.f3.f0), .int .i64 0, .int .i64 0]) ?_ 7 _ rfl; refine bk (h := ?_); refine blk_put (cs := #[.slice A271_0 ((rd_T121 l0 x17_1).f0).length c271_0, .int .i64 ((rd_T121 l0 x17_1).f1.f0), .bool ((rd_T121 l0 x17_1).f1.f1), .int .i64 ((rd_T121 l0 x17_1).f1.f2.f0), .int .i64 ((rd_T121 l0 x17_1).f1.f2.f1), .int .i64 ((rd_T121 l0 x17_1).f1.f2.f2), .int .i64 0, .int .i64 0, .int .i64 0]) ?_ 6 _ rfl; refine bk (h := ?_); refine blk_put (cs := #[.slice A271_0 ((rd_T121 l0 x17_1).f0).length c271_0, .int .i64 ((rd_T121 l0 x17_1).f1.f0), .bool ((rd_T121 l0 x17_1).f1.f1), .int .i64 ((rd_T121 l0 x17_1).f1.f2.f0), .int .i64 ((rd_T121 l0 x17_1).f1.f2.f1), .int .i64 0, .int .i64 0, .int .i64 0, .int .i64 0]) ?_ 5 _ rfl; refine bk (h := ?_); refine blk_put (cs := #[.slice A271_0 ((rd_T121 l0 x17_1).f0).length c271_0, .int .i64 ((rd_T121 l0 x17_1).f1.f0), .bool ((rd_T121 l0 x17_1).f1.f1), .int .i64 ((rd_T121 l0 x17_1).f1.f2.f0), .int .i64 0, .int .i64 0, .int .i64 0, .int .i64 0, .int .i64 0]) ?_ 4 _ rfl; refine bk (h := ?_); refine blk_put (cs := #[.slice A271_0 ((rd_T121 l0 x17_1).f0).length c271_0, .int .i64 ((rd_T121 l0 x17_1).f1.f0), .bool ((rd_T121 l0 x17_1).f1.f1), .int .i64 0, .int .i64 0, .int .i64 0, .int .i64 0, .int .i64 0, .int .i64 0]) ?_ 3 _ rfl; refine bk (h := ?_); refine blk_put (cs := #[.slice A271_0 ((rd_T121 l0 x17_1).f0).length c271_0, .int .i64 ((rd_T121 l0 x17_1).f1.f0), .bool false, .int .i64 0, .int .i64 0, .int .i64 0, .int .i64 0, .int .i64 0, .int .i64 0]) ?_ 2 _ rfl; refine bk (h := ?_); refine blk_put (cs := #[.slice A271_0 ((rd_T121 l0 x17_1).f0).length c271_0, .int .i64 0, .bool false, .int .i64 0, .int .i64 0, .int .i64 0, .int .i64 0, .int .i64 0, .int .i64 0]) ?_ 1 _ rfl; refine bk (h := ?_); refine blk_put (cs := #[.slice none 0 0, .int .i64 0, .bool false, .int .i64 0, .int .i64 0, .int .i64 0, .int .i64 0, .int .i64 0, .int .i64 0]) ?_ 0 _ rfl; refine bk (h := ?_); exact BK272.out)) : gb272 ≠ gb274)); have NB274_272 := Aside0.mk ((by rw [hg]; exact Nat.ne_of_gt (blk_lt (g := gb272) (o := .cells #[.slice A271_0 ((rd_T121 l0 x17_1).f0).length c271_0, .int .i64 ((rd_T121 l0 x17_1).f1.f0), .bool ((rd_T121 l0 x17_1).f1.f1), .int .i64 ((rd_T121 l0 x17_1).f1.f2.f0), .int .i64 ((rd_T121 l0 x17_1).f1.f2.f1), .int .i64 ((rd_T121 l0 x17_1).f1.f2.f2), .int .i64 ((rd_T121 l0 x17_1).f1.f3.f0), .int .i64 ((rd_T121 l0 x17_1).f1.f3.f1), .int .i64 ((rd_T121 l0 x17_1).f1.f3.f2)] 121 (0, 0)) (by refine bk (h := ?_); refine blk_put (cs := #[.slice A271_0 ((rd_T121 l0 x17_1).f0).length c271_0, .int .i64 ((rd_T121 l0 x17_1).f1.f0), .bool ((rd_T121 l0 x17_1).f1.f1), .int .i64 ((rd_T121 l0 x17_1).f1.f2.f0), .int .i64 ((rd_T121 l0 x17_1).f1.f2.f1), .int .i64 ((rd_T121 l0 x17_1).f1.f2.f2), .int .i64 ((rd_T121 l0 x17_1).f1.f3.f0), .int .i64 ((rd_T121 l0 x17_1).f1.f3.f1), .int .i64 0]) ?_ 8 _ rfl; refine bk (h := ?_); refine blk_put (cs := #[.slice A271_0 ((rd_T121 l0 x17_1).f0).length c271_0, .int .i64 ((rd_T121 l0 x17_1).f1.f0), .bool ((rd_T121 l0 x17_1).f1.f1), .int .i64 ((rd_T121 l0 x17_1).f1.f2.f0), .int .i64 ((rd_T121 l0 x17_1).f1.f2.f1), .int .i64 ((rd_T121 l0 x17_1).f1.f2.f2), .int .i64 ((rd_T121 l0 x17_1).f1.f3.f0), .int .i64 0, .int .i64 0]) ?_ 7 _ rfl; refine bk (h := ?_); refine blk_put (cs := #[.slice A271_0 ((rd_T121 l0 x17_1).f0).length c271_0, .int .i64 ((rd_T121 l0 x17_1).f1.f0), .bool ((rd_T121 l0 x17_1).f1.f1), .int .i64 ((rd_T121 l0 x17_1).f1.f2.f0), .int .i64 ((rd_T121 l0 x17_1).f1.f2.f1), .int .i64 ((rd_T121 l0 x17_1).f1.f2.f2), .int .i64 0, .int .i64 0, .int .i64 0]) ?_ 6 _ rfl; refine bk (h := ?_); refine blk_put (cs := #[.slice A271_0 ((rd_T121 l0 x17_1).f0).length c271_0, .int .i64 ((rd_T121 l0 x17_1).f1.f0), .bool ((rd_T121 l0 x17_1).f1.f1), .int .i64 ((rd_T121 l0 x17_1).f1.f2.f0), .int .i64 ((rd_T121 l0 x17_1).f1.f2.f1), .int .i64 0, .int .i64 0, .int .i64 0, .int .i64 0]) ?_ 5 _ rfl; refine bk (h := ?_); refine blk_put (cs := #[.slice A271_0 ((rd_T121 l0 x17_1).f0).length c271_0, .int .i64 ((rd_T121 l0 x17_1).f1.f0), .bool ((rd_T121 l0 x17_1).f1.f1), .int .i64 ((rd_T121 l0 x17_1).f1.f2.f0), .int .i64 0, .int .i64 0, .int .i64 0, .int .i64 0, .int .i64 0]) ?_ 4 _ rfl; refine bk (h := ?_); refine blk_put (cs := #[.slice A271_0 ((rd_T121 l0 x17_1).f0).length c271_0, .int .i64 ((rd_T121 l0 x17_1).f1.f0), .bool ((rd_T121 l0 x17_1).f1.f1), .int .i64 0, .int .i64 0, .int .i64 0, .int .i64 0, .int .i64 0, .int .i64 0]) ?_ 3 _ rfl; refine bk (h := ?_); refine blk_put (cs := #[.slice A271_0 ((rd_T121 l0 x17_1).f0).length c271_0, .int .i64 ((rd_T121 l0 x17_1).f1.f0), .bool false, .int .i64 0, .int .i64 0, .int .i64 0, .int .i64 0, .int .i64 0, .int .i64 0]) ?_ 2 _ rfl; refine bk (h := ?_); refine blk_put (cs := #[.slice A271_0 ((rd_T121 l0 x17_1).f0).length c271_0, .int .i64 0, .bool false, .int .i64 0, .int .i64 0, .int .i64 0, .int .i64 0, .int .i64 0, .int .i64 0]) ?_ 1 _ rfl; refine bk (h := ?_); refine blk_put (cs := #[.slice none 0 0, .int .i64 0, .bool false, .int .i64 0, .int .i64 0, .int .i64 0, .int .i64 0, .int .i64 0, .int .i64 0]) ?_ 0 _ rfl; refine bk (h := ?_); exact BK272.out)) : gb274 ≠ gb272)); replace BK272 := Aside0.mk (blk_below (g := gb272) (o := .cells #[.slice A271_0 ((rd_T121 l0 x17_1).f0).length c271_0, .int .i64 ((rd_T121 l0 x17_1).f1.f0), .bool ((rd_T121 l0 x17_1).f1.f1), .int .i64 ((rd_T121 l0 x17_1).f1.f2.f0), .int .i64 ((rd_T121 l0 x17_1).f1.f2.f1), .int .i64 ((rd_T121 l0 x17_1).f1.f2.f2), .int .i64 ((rd_T121 l0 x17_1).f1.f3.f0), .int .i64 ((rd_T121 l0 x17_1).f1.f3.f1), .int .i64 ((rd_T121 l0 x17_1).f1.f3.f2)] 121 (0, 0)) (by refine bk (h := ?_); refine blk_put (cs := #[.slice A271_0 ((rd_T121 l0 x17_1).f0).length c271_0, .int .i64 ((rd_T121 l0 x17_1).f1.f0), .bool ((rd_T121 l0 x17_1).f1.f1), .int .i64 ((rd_T121 l0 x17_1).f1.f2.f0), .int .i64 ((rd_T121 l0 x17_1).f1.f2.f1), .int .i64 ((rd_T121 l0 x17_1).f1.f2.f2), .int .i64 ((rd_T121 l0 x17_1).f1.f3.f0), .int .i64 ((rd_T121 l0 x17_1).f1.f3.f1), .int .i64 0]) ?_ 8 _ rfl; refine bk (h := ?_); refine blk_put (cs := #[.slice A271_0 ((rd_T121 l0 x17_1).f0).length c271_0, .int .i64 ((rd_T121 l0 x17_1).f1.f0), .bool ((rd_T121 l0 x17_1).f1.f1), .int .i64 ((rd_T121 l0 x17_1).f1.f2.f0), .int .i64 ((rd_T121 l0 x17_1).f1.f2.f1), .int .i64 ((rd_T121 l0 x17_1).f1.f2.f2), .int .i64 ((rd_T121 l0 x17_1).f1.f3.f0), .int .i64 0, .int .i64 0]) ?_ 7 _ rfl; refine bk (h := ?_); refine blk_put (cs := #[.slice A271_0 ((rd_T121 l0 x17_1).f0).length c271_0, .int .i64 ((rd_T121 l0 x17_1).f1.f0), .bool ((rd_T121 l0 x17_1).f1.f1), .int .i64 ((rd_T121 l0 x17_1).f1.f2.f0), .int .i64 ((rd_T121 l0 x17_1).f1.f2.f1), .int .i64 ((rd_T121 l0 x17_1).f1.f2.f2), .int .i64 0, .int .i64 0, .int .i64 0]) ?_ 6 _ rfl; refine bk (h := ?_); refine blk_put (cs := #[.slice A271_0 ((rd_T121 l0 x17_1).f0).length c271_0, .int .i64 ((rd_T121 l0 x17_1).f1.f0), .bool ((rd_T121 l0 x17_1).f1.f1), .int .i64 ((rd_T121 l0 x17_1).f1.f2.f0), .int .i64 ((rd_T121 l0 x17_1).f1.f2.f1), .int .i64 0, .int .i64 0, .int .i64 0, .int .i64 0]) ?_ 5 _ rfl; refine bk (h := ?_); refine blk_put (cs := #[.slice A271_0 ((rd_T121 l0 x17_1).f0).length c271_0, .int .i64 ((rd_T121 l0 x17_1).f1.f0), .bool ((rd_T121 l0 x17_1).f1.f1), .int .i64 ((rd_T121 l0 x17_1).f1.f2.f0), .int .i64 0, .int .i64 0, .int .i64 0, .int .i64 0, .int .i64 0]) ?_ 4 _ rfl; refine bk (h := ?_); refine blk_put (cs := #[.slice A271_0 ((rd_T121 l0 x17_1).f0).length c271_0, .int .i64 ((rd_T121 l0 x17_1).f1.f0), .bool ((rd_T121 l0 x17_1).f1.f1), .int .i64 0, .int .i64 0, .int .i64 0, .int .i64 0, .int .i64 0, .int .i64 0]) ?_ 3 _ rfl; refine bk (h := ?_); refine blk_put (cs := #[.slice A271_0 ((rd_T121 l0 x17_1).f0).length c271_0, .int .i64 ((rd_T121 l0 x17_1).f1.f0), .bool false, .int .i64 0, .int .i64 0, .int .i64 0, .int .i64 0, .int .i64 0, .int .i64 0]) ?_ 2 _ rfl; refine bk (h := ?_); refine blk_put (cs := #[.slice A271_0 ((rd_T121 l0 x17_1).f0).length c271_0, .int .i64 0, .bool false, .int .i64 0, .int .i64 0, .int .i64 0, .int .i64 0, .int .i64 0, .int .i64 0]) ?_ 1 _ rfl; refine bk (h := ?_); refine blk_put (cs := #[.slice none 0 0, .int .i64 0, .bool false, .int .i64 0, .int .i64 0, .int .i64 0, .int .i64 0, .int .i64 0, .int .i64 0]) ?_ 0 _ rfl; refine bk (h := ?_); exact BK272.out) hb); replace HB := bs hb; clear hb hbox hg; have hnb14 := NB274_272.out; have hnc14 := NB272_274.out; obtain ⟨z15_0, z15_1, z15_2, z15_3, z15_4, z15_5, z15_6, z15_7, z15_8, y15_0, y15_1, y15_2, y15_3, y15_4, y15_5, y15_6, y15_7, y15_8⟩ := bq9 BK274; obtain ⟨z16_0, z16_1, z16_2, z16_3, z16_4, z16_5, z16_6, z16_7, z16_8, y16_0, y16_1, y16_2, y16_3, y16_4, y16_5, y16_6, y16_7, y16_8⟩ := bq9 BK272) | ((refine gate_fv (f := 139) rfl (by rfl) ?_); refine goesLV_ (some 29) rfl rfl Try.func139 (by kernel_rfl) rfl #[.agg #[.slice A271_0 ((rd_T121 l0 x17_1).f0).length c271_0, .int .i64 ((rd_T121 l0 x17_1).f1.f0), .bool ((rd_T121 l0 x17_1).f1.f1), .int .i64 ((rd_T121 l0 x17_1).f1.f2.f0), .int .i64 ((rd_T121 l0 x17_1).f1.f2.f1), .int .i64 ((rd_T121 l0 x17_1).f1.f2.f2), .int .i64 ((rd_T121 l0 x17_1).f1.f3.f0), .int .i64 ((rd_T121 l0 x17_1).f1.f3.f1), .int .i64 ((rd_T121 l0 x17_1).f1.f3.f2)], .agg #[.slice A273_0 ((rd_T121 l1 x17_1).f0).length c273_0, .int .i64 ((rd_T121 l1 x17_1).f1.f0), .bool ((rd_T121 l1 x17_1).f1.f1), .int .i64 ((rd_T121 l1 x17_1).f1.f2.f0), .int .i64 ((rd_T121 l1 x17_1).f1.f2.f1), .int .i64 ((rd_T121 l1 x17_1).f1.f2.f2), .int .i64 ((rd_T121 l1 x17_1).f1.f3.f0), .int .i64 ((rd_T121 l1 x17_1).f1.f3.f1), .int .i64 ((rd_T121 l1 x17_1).f1.f3.f2)]] rfl (by rfl) (by (try simp only [List.map_toArray, List.map_cons, List.map_nil]); first | done | rfl | (simp only [List.length_drop, List.length_take]; rfl)) ?_; (with_reducible refine (impl_SameState_1.calls k1 _ _ ((rd_T121 l0 x17_1).f0) ((rd_T121 l0 x17_1).f1.f0) ((rd_T121 l0 x17_1).f1.f1) ((rd_T121 l0 x17_1).f1.f2.f0) ((rd_T121 l0 x17_1).f1.f2.f1) ((rd_T121 l0 x17_1).f1.f2.f2) ((rd_T121 l0 x17_1).f1.f3.f0) ((rd_T121 l0 x17_1).f1.f3.f1) ((rd_T121 l0 x17_1).f1.f3.f2) _ _ ((rd_T121 l1 x17_1).f0) ((rd_T121 l1 x17_1).f1.f0) ((rd_T121 l1 x17_1).f1.f1) ((rd_T121 l1 x17_1).f1.f2.f0) ((rd_T121 l1 x17_1).f1.f2.f1) ((rd_T121 l1 x17_1).f1.f2.f2) ((rd_T121 l1 x17_1).f1.f3.f0) ((rd_T121 l1 x17_1).f1.f3.f1) ((rd_T121 l1 x17_1).f1.f3.f2) true _ ?side1 ?side2 ?side3 ?side4 A9.out).mono ?_); (case side1 => exact Kd.C_below HR271_0.out bw); (case side2 => exact HC271_0.out); (case side3 => exact Kd.C_below HR273_0.out bw); (case side4 => exact HC273_0.out); rintro e w17 ⟨rfl, hb⟩; refine ⟨_, rfl, ?_⟩; replace BK272 := Aside0.mk (blk_below (g := gb272) (o := .cells #[.slice A271_0 ((rd_T121 l0 x17_1).f0).length c271_0, .int .i64 ((rd_T121 l0 x17_1).f1.f0), .bool ((rd_T121 l0 x17_1).f1.f1), .int .i64 ((rd_T121 l0 x17_1).f1.f2.f0), .int .i64 ((rd_T121 l0 x17_1).f1.f2.f1), .int .i64 ((rd_T121 l0 x17_1).f1.f2.f2), .int .i64 ((rd_T121 l0 x17_1).f1.f3.f0), .int .i64 ((rd_T121 l0 x17_1).f1.f3.f1), .int .i64 ((rd_T121 l0 x17_1).f1.f3.f2)] 121 (0, 0)) (by refine bk (h := ?_); refine blk_far ?_ NB272_274.out _; refine bk (h := ?_); refine blk_far ?_ NB272_274.out _; refine bk (h := ?_); refine blk_far ?_ NB272_274.out _; refine bk (h := ?_); refine blk_far ?_ NB272_274.out _; refine bk (h := ?_); refine blk_far ?_ NB272_274.out _; refine bk (h := ?_); refine blk_far ?_ NB272_274.out _; refine bk (h := ?_); refine blk_far ?_ NB272_274.out _; refine bk (h := ?_); refine blk_far ?_ NB272_274.out _; refine bk (h := ?_); refine blk_far ?_ NB272_274.out _; refine bk (h := ?_); exact BK272.out) hb); replace BK274 := Aside0.mk (blk_below (g := gb274) (o := .cells #[.slice A273_0 ((rd_T121 l1 x17_1).f0).length c273_0, .int .i64 ((rd_T121 l1 x17_1).f1.f0), .bool ((rd_T121 l1 x17_1).f1.f1), .int .i64 ((rd_T121 l1 x17_1).f1.f2.f0), .int .i64 ((rd_T121 l1 x17_1).f1.f2.f1), .int .i64 ((rd_T121 l1 x17_1).f1.f2.f2), .int .i64 ((rd_T121 l1 x17_1).f1.f3.f0), .int .i64 ((rd_T121 l1 x17_1).f1.f3.f1), .int .i64 ((rd_T121 l1 x17_1).f1.f3.f2)] 121 (0, 0)) (by refine bk (h := ?_); refine blk_put (cs := #[.slice A273_0 ((rd_T121 l1 x17_1).f0).length c273_0, .int .i64 ((rd_T121 l1 x17_1).f1.f0), .bool ((rd_T121 l1 x17_1).f1.f1), .int .i64 ((rd_T121 l1 x17_1).f1.f2.f0), .int .i64 ((rd_T121 l1 x17_1).f1.f2.f1), .int .i64 ((rd_T121 l1 x17_1).f1.f2.f2), .int .i64 ((rd_T121 l1 x17_1).f1.f3.f0), .int .i64 ((rd_T121 l1 x17_1).f1.f3.f1), .int .i64 0]) ?_ 8 _ rfl; refine bk (h := ?_); refine blk_put (cs := #[.slice A273_0 ((rd_T121 l1 x17_1).f0).length c273_0, .int .i64 ((rd_T121 l1 x17_1).f1.f0), .bool ((rd_T121 l1 x17_1).f1.f1), .int .i64 ((rd_T121 l1 x17_1).f1.f2.f0), .int .i64 ((rd_T121 l1 x17_1).f1.f2.f1), .int .i64 ((rd_T121 l1 x17_1).f1.f2.f2), .int .i64 ((rd_T121 l1 x17_1).f1.f3.f0), .int .i64 0, .int .i64 0]) ?_ 7 _ rfl; refine bk (h := ?_); refine blk_put (cs := #[.slice A273_0 ((rd_T121 l1 x17_1).f0).length c273_0, .int .i64 ((rd_T121 l1 x17_1).f1.f0), .bool ((rd_T121 l1 x17_1).f1.f1), .int .i64 ((rd_T121 l1 x17_1).f1.f2.f0), .int .i64 ((rd_T121 l1 x17_1).f1.f2.f1), .int .i64 ((rd_T121 l1 x17_1).f1.f2.f2), .int .i64 0, .int .i64 0, .int .i64 0]) ?_ 6 _ rfl; refine bk (h := ?_); refine blk_put (cs := #[.slice A273_0 ((rd_T121 l1 x17_1).f0).length c273_0, .int .i64 ((rd_T121 l1 x17_1).f1.f0), .bool ((rd_T121 l1 x17_1).f1.f1), .int .i64 ((rd_T121 l1 x17_1).f1.f2.f0), .int .i64 ((rd_T121 l1 x17_1).f1.f2.f1), .int .i64 0, .int .i64 0, .int .i64 0, .int .i64 0]) ?_ 5 _ rfl; refine bk (h := ?_); refine blk_put (cs := #[.slice A273_0 ((rd_T121 l1 x17_1).f0).length c273_0, .int .i64 ((rd_T121 l1 x17_1).f1.f0), .bool ((rd_T121 l1 x17_1).f1.f1), .int .i64 ((rd_T121 l1 x17_1).f1.f2.f0), .int .i64 0, .int .i64 0, .int .i64 0, .int .i64 0, .int .i64 0]) ?_ 4 _ rfl; refine bk (h := ?_); refine blk_put (cs := #[.slice A273_0 ((rd_T121 l1 x17_1).f0).length c273_0, .int .i64 ((rd_T121 l1 x17_1).f1.f0), .bool ((rd_T121 l1 x17_1).f1.f1), .int .i64 0, .int .i64 0, .int .i64 0, .int .i64 0, .int .i64 0, .int .i64 0]) ?_ 3 _ rfl; refine bk (h := ?_); refine blk_put (cs := #[.slice A273_0 ((rd_T121 l1 x17_1).f0).length c273_0, .int .i64 ((rd_T121 l1 x17_1).f1.f0), .bool false, .int .i64 0, .int .i64 0, .int .i64 0, .int .i64 0, .int .i64 0, .int .i64 0]) ?_ 2 _ rfl; refine bk (h := ?_); refine blk_put (cs := #[.slice A273_0 ((rd_T121 l1 x17_1).f0).length c273_0, .int .i64 0, .bool false, .int .i64 0, .int .i64 0, .int .i64 0, .int .i64 0, .int .i64 0, .int .i64 0]) ?_ 1 _ rfl; refine bk (h := ?_); refine blk_put (cs := #[.slice none 0 0, .int .i64 0, .bool false, .int .i64 0, .int .i64 0, .int .i64 0, .int .i64 0, .int .i64 0, .int .i64 0]) ?_ 0 _ rfl; refine bk (h := ?_); exact BK274.out) hb); replace HB := bs hb; (try clear hb); (try clear hb2); (try clear hk); (try clear hi)))
                  go_roundg k1
                  case measure => have := HK1.out; omega
                  case rel => exact ⟨(wrap64 (x17_1 + 1)), (by first | rfl | (simp; done) | (simp [*]; done)), H', ⟨by have := HK1.out; omega⟩, ⟨bw⟩⟩
                · replace c10 := Bool.eq_false_iff.mpr c10
                  subst c10
                  rw [if_neg nf] at H
                  obtain rfl := Option.some.inj H
                  have p271 : 0 ≤ (x17_1 : Int) := od
                  have q271 : x17_1 < (l0.length : Int) := od
                  obtain ⟨ad271, A271_0, c271_0, e271, hx271_0, hx271_1, hx271_2, hx271_3, hx271_4, hx271_5, hx271_6, hx271_7, hx271_8, hl271_0, hi271_0⟩ := at_T121 HR0.out x17_1 p271 q271
                  cases e271
                  replace hx271_0 := bc hx271_0
                  replace hx271_1 := bc hx271_1
                  replace hx271_2 := bc hx271_2
                  replace hx271_3 := bc hx271_3
                  replace hx271_4 := bc hx271_4
                  replace hx271_5 := bc hx271_5
                  replace hx271_6 := bc hx271_6
                  replace hx271_7 := bc hx271_7
                  replace hx271_8 := bc hx271_8
                  have HR271_0 := Aside0.mk hi271_0
                  have HC271_0 := Aside0.mk hl271_0
                  clear hi271_0 hl271_0
                  replace p271 := eq_true p271
                  replace q271 := eq_true q271
                  go_wp2_with (first | ((with_reducible refine gate_dst (N := 8) rfl ?_); refine bx #[.slice none 0 0, .int .i64 0, .bool false, .int .i64 0, .int .i64 0, .int .i64 0, .int .i64 0, .int .i64 0, .int .i64 0] 121 ?_; intro gb272 hg w18 hbox hb; have BK272 := Aside0.mk hbox; have GW272 := bg hg; have GE272 := bg hg; replace HB := bs hb; clear hb hbox hg; obtain ⟨z19_0, z19_1, z19_2, z19_3, z19_4, z19_5, z19_6, z19_7, z19_8, y19_0, y19_1, y19_2, y19_3, y19_4, y19_5, y19_6, y19_7, y19_8⟩ := bq9 BK272; have p273 : 0 ≤ (x17_1 : Int) := od; have q273 : x17_1 < (l1.length : Int) := od; obtain ⟨ad273, A273_0, c273_0, e273, hx273_0, hx273_1, hx273_2, hx273_3, hx273_4, hx273_5, hx273_6, hx273_7, hx273_8, hl273_0, hi273_0⟩ := at_T121 HR1.out x17_1 p273 q273; cases e273; have hn273_0 : ad273.block ≠ gb272 := Nat.ne_of_lt (Nat.lt_of_lt_of_le (by have := World.block_lt_of_cell? _ _ hx273_0; first | rwa [add_block] at this | exact this) GW272.out); have hn273_1 : ad273.block ≠ gb272 := Nat.ne_of_lt (Nat.lt_of_lt_of_le (by have := World.block_lt_of_cell? _ _ hx273_0; first | rwa [add_block] at this | exact this) GW272.out); have hn273_2 : ad273.block ≠ gb272 := Nat.ne_of_lt (Nat.lt_of_lt_of_le (by have := World.block_lt_of_cell? _ _ hx273_0; first | rwa [add_block] at this | exact this) GW272.out); have hn273_3 : ad273.block ≠ gb272 := Nat.ne_of_lt (Nat.lt_of_lt_of_le (by have := World.block_lt_of_cell? _ _ hx273_0; first | rwa [add_block] at this | exact this) GW272.out); have hn273_4 : ad273.block ≠ gb272 := Nat.ne_of_lt (Nat.lt_of_lt_of_le (by have := World.block_lt_of_cell? _ _ hx273_0; first | rwa [add_block] at this | exact this) GW272.out); have hn273_5 : ad273.block ≠ gb272 := Nat.ne_of_lt (Nat.lt_of_lt_of_le (by have := World.block_lt_of_cell? _ _ hx273_0; first | rwa [add_block] at this | exact this) GW272.out); have hn273_6 : ad273.block ≠ gb272 := Nat.ne_of_lt (Nat.lt_of_lt_of_le (by have := World.block_lt_of_cell? _ _ hx273_0; first | rwa [add_block] at this | exact this) GW272.out); have hn273_7 : ad273.block ≠ gb272 := Nat.ne_of_lt (Nat.lt_of_lt_of_le (by have := World.block_lt_of_cell? _ _ hx273_0; first | rwa [add_block] at this | exact this) GW272.out); have hn273_8 : ad273.block ≠ gb272 := Nat.ne_of_lt (Nat.lt_of_lt_of_le (by have := World.block_lt_of_cell? _ _ hx273_0; first | rwa [add_block] at this | exact this) GW272.out); replace hx273_0 := bc hx273_0; replace hx273_1 := bc hx273_1; replace hx273_2 := bc hx273_2; replace hx273_3 := bc hx273_3; replace hx273_4 := bc hx273_4; replace hx273_5 := bc hx273_5; replace hx273_6 := bc hx273_6; replace hx273_7 := bc hx273_7; replace hx273_8 := bc hx273_8; have HR273_0 := Aside0.mk hi273_0; have HC273_0 := Aside0.mk hl273_0; clear hi273_0 hl273_0; replace hx273_0 := cf ⟨gb272, 0, none⟩ (.slice A271_0 ((rd_T121 l0 x17_1).f0).length c271_0) hn273_0 hx273_0; replace hx273_1 := cf ⟨gb272, 0, none⟩ (.slice A271_0 ((rd_T121 l0 x17_1).f0).length c271_0) hn273_0 hx273_1; replace hx273_2 := cf ⟨gb272, 0, none⟩ (.slice A271_0 ((rd_T121 l0 x17_1).f0).length c271_0) hn273_0 hx273_2; replace hx273_3 := cf ⟨gb272, 0, none⟩ (.slice A271_0 ((rd_T121 l0 x17_1).f0).length c271_0) hn273_0 hx273_3; replace hx273_4 := cf ⟨gb272, 0, none⟩ (.slice A271_0 ((rd_T121 l0 x17_1).f0).length c271_0) hn273_0 hx273_4; replace hx273_5 := cf ⟨gb272, 0, none⟩ (.slice A271_0 ((rd_T121 l0 x17_1).f0).length c271_0) hn273_0 hx273_5; replace hx273_6 := cf ⟨gb272, 0, none⟩ (.slice A271_0 ((rd_T121 l0 x17_1).f0).length c271_0) hn273_0 hx273_6; replace hx273_7 := cf ⟨gb272, 0, none⟩ (.slice A271_0 ((rd_T121 l0 x17_1).f0).length c271_0) hn273_0 hx273_7; replace hx273_8 := cf ⟨gb272, 0, none⟩ (.slice A271_0 ((rd_T121 l0 x17_1).f0).length c271_0) hn273_0 hx273_8; replace hx273_0 := cf ⟨gb272, 1, none⟩ (.int .i64 ((rd_T121 l0 x17_1).f1.f0)) hn273_1 hx273_0; replace hx273_1 := cf ⟨gb272, 1, none⟩ (.int .i64 ((rd_T121 l0 x17_1).f1.f0)) hn273_1 hx273_1; replace hx273_2 := cf ⟨gb272, 1, none⟩ (.int .i64 ((rd_T121 l0 x17_1).f1.f0)) hn273_1 hx273_2; replace hx273_3 := cf ⟨gb272, 1, none⟩ (.int .i64 ((rd_T121 l0 x17_1).f1.f0)) hn273_1 hx273_3; replace hx273_4 := cf ⟨gb272, 1, none⟩ (.int .i64 ((rd_T121 l0 x17_1).f1.f0)) hn273_1 hx273_4; replace hx273_5 := cf ⟨gb272, 1, none⟩ (.int .i64 ((rd_T121 l0 x17_1).f1.f0)) hn273_1 hx273_5; replace hx273_6 := cf ⟨gb272, 1, none⟩ (.int .i64 ((rd_T121 l0 x17_1).f1.f0)) hn273_1 hx273_6; replace hx273_7 := cf ⟨gb272, 1, none⟩ (.int .i64 ((rd_T121 l0 x17_1).f1.f0)) hn273_1 hx273_7; replace hx273_8 := cf ⟨gb272, 1, none⟩ (.int .i64 ((rd_T121 l0 x17_1).f1.f0)) hn273_1 hx273_8; replace hx273_0 := cf ⟨gb272, 2, none⟩ (.bool ((rd_T121 l0 x17_1).f1.f1)) hn273_2 hx273_0; replace hx273_1 := cf ⟨gb272, 2, none⟩ (.bool ((rd_T121 l0 x17_1).f1.f1)) hn273_2 hx273_1; replace hx273_2 := cf ⟨gb272, 2, none⟩ (.bool ((rd_T121 l0 x17_1).f1.f1)) hn273_2 hx273_2; replace hx273_3 := cf ⟨gb272, 2, none⟩ (.bool ((rd_T121 l0 x17_1).f1.f1)) hn273_2 hx273_3; replace hx273_4 := cf ⟨gb272, 2, none⟩ (.bool ((rd_T121 l0 x17_1).f1.f1)) hn273_2 hx273_4; replace hx273_5 := cf ⟨gb272, 2, none⟩ (.bool ((rd_T121 l0 x17_1).f1.f1)) hn273_2 hx273_5; replace hx273_6 := cf ⟨gb272, 2, none⟩ (.bool ((rd_T121 l0 x17_1).f1.f1)) hn273_2 hx273_6; replace hx273_7 := cf ⟨gb272, 2, none⟩ (.bool ((rd_T121 l0 x17_1).f1.f1)) hn273_2 hx273_7; replace hx273_8 := cf ⟨gb272, 2, none⟩ (.bool ((rd_T121 l0 x17_1).f1.f1)) hn273_2 hx273_8; replace hx273_0 := cf ⟨gb272, 3, none⟩ (.int .i64 ((rd_T121 l0 x17_1).f1.f2.f0)) hn273_3 hx273_0; replace hx273_1 := cf ⟨gb272, 3, none⟩ (.int .i64 ((rd_T121 l0 x17_1).f1.f2.f0)) hn273_3 hx273_1; replace hx273_2 := cf ⟨gb272, 3, none⟩ (.int .i64 ((rd_T121 l0 x17_1).f1.f2.f0)) hn273_3 hx273_2; replace hx273_3 := cf ⟨gb272, 3, none⟩ (.int .i64 ((rd_T121 l0 x17_1).f1.f2.f0)) hn273_3 hx273_3; replace hx273_4 := cf ⟨gb272, 3, none⟩ (.int .i64 ((rd_T121 l0 x17_1).f1.f2.f0)) hn273_3 hx273_4; replace hx273_5 := cf ⟨gb272, 3, none⟩ (.int .i64 ((rd_T121 l0 x17_1).f1.f2.f0)) hn273_3 hx273_5; replace hx273_6 := cf ⟨gb272, 3, none⟩ (.int .i64 ((rd_T121 l0 x17_1).f1.f2.f0)) hn273_3 hx273_6; replace hx273_7 := cf ⟨gb272, 3, none⟩ (.int .i64 ((rd_T121 l0 x17_1).f1.f2.f0)) hn273_3 hx273_7; replace hx273_8 := cf ⟨gb272, 3, none⟩ (.int .i64 ((rd_T121 l0 x17_1).f1.f2.f0)) hn273_3 hx273_8; replace hx273_0 := cf ⟨gb272, 4, none⟩ (.int .i64 ((rd_T121 l0 x17_1).f1.f2.f1)) hn273_4 hx273_0; replace hx273_1 := cf ⟨gb272, 4, none⟩ (.int .i64 ((rd_T121 l0 x17_1).f1.f2.f1)) hn273_4 hx273_1; replace hx273_2 := cf ⟨gb272, 4, none⟩ (.int .i64 ((rd_T121 l0 x17_1).f1.f2.f1)) hn273_4 hx273_2; replace hx273_3 := cf ⟨gb272, 4, none⟩ (.int .i64 ((rd_T121 l0 x17_1).f1.f2.f1)) hn273_4 hx273_3; replace hx273_4 := cf ⟨gb272, 4, none⟩ (.int .i64 ((rd_T121 l0 x17_1).f1.f2.f1)) hn273_4 hx273_4; replace hx273_5 := cf ⟨gb272, 4, none⟩ (.int .i64 ((rd_T121 l0 x17_1).f1.f2.f1)) hn273_4 hx273_5; replace hx273_6 := cf ⟨gb272, 4, none⟩ (.int .i64 ((rd_T121 l0 x17_1).f1.f2.f1)) hn273_4 hx273_6; replace hx273_7 := cf ⟨gb272, 4, none⟩ (.int .i64 ((rd_T121 l0 x17_1).f1.f2.f1)) hn273_4 hx273_7; replace hx273_8 := cf ⟨gb272, 4, none⟩ (.int .i64 ((rd_T121 l0 x17_1).f1.f2.f1)) hn273_4 hx273_8; replace hx273_0 := cf ⟨gb272, 5, none⟩ (.int .i64 ((rd_T121 l0 x17_1).f1.f2.f2)) hn273_5 hx273_0; replace hx273_1 := cf ⟨gb272, 5, none⟩ (.int .i64 ((rd_T121 l0 x17_1).f1.f2.f2)) hn273_5 hx273_1; replace hx273_2 := cf ⟨gb272, 5, none⟩ (.int .i64 ((rd_T121 l0 x17_1).f1.f2.f2)) hn273_5 hx273_2; replace hx273_3 := cf ⟨gb272, 5, none⟩ (.int .i64 ((rd_T121 l0 x17_1).f1.f2.f2)) hn273_5 hx273_3; replace hx273_4 := cf ⟨gb272, 5, none⟩ (.int .i64 ((rd_T121 l0 x17_1).f1.f2.f2)) hn273_5 hx273_4; replace hx273_5 := cf ⟨gb272, 5, none⟩ (.int .i64 ((rd_T121 l0 x17_1).f1.f2.f2)) hn273_5 hx273_5; replace hx273_6 := cf ⟨gb272, 5, none⟩ (.int .i64 ((rd_T121 l0 x17_1).f1.f2.f2)) hn273_5 hx273_6; replace hx273_7 := cf ⟨gb272, 5, none⟩ (.int .i64 ((rd_T121 l0 x17_1).f1.f2.f2)) hn273_5 hx273_7; replace hx273_8 := cf ⟨gb272, 5, none⟩ (.int .i64 ((rd_T121 l0 x17_1).f1.f2.f2)) hn273_5 hx273_8; replace hx273_0 := cf ⟨gb272, 6, none⟩ (.int .i64 ((rd_T121 l0 x17_1).f1.f3.f0)) hn273_6 hx273_0; replace hx273_1 := cf ⟨gb272, 6, none⟩ (.int .i64 ((rd_T121 l0 x17_1).f1.f3.f0)) hn273_6 hx273_1; replace hx273_2 := cf ⟨gb272, 6, none⟩ (.int .i64 ((rd_T121 l0 x17_1).f1.f3.f0)) hn273_6 hx273_2; replace hx273_3 := cf ⟨gb272, 6, none⟩ (.int .i64 ((rd_T121 l0 x17_1).f1.f3.f0)) hn273_6 hx273_3; replace hx273_4 := cf ⟨gb272, 6, none⟩ (.int .i64 ((rd_T121 l0 x17_1).f1.f3.f0)) hn273_6 hx273_4; replace hx273_5 := cf ⟨gb272, 6, none⟩ (.int .i64 ((rd_T121 l0 x17_1).f1.f3.f0)) hn273_6 hx273_5; replace hx273_6 := cf ⟨gb272, 6, none⟩ (.int .i64 ((rd_T121 l0 x17_1).f1.f3.f0)) hn273_6 hx273_6; replace hx273_7 := cf ⟨gb272, 6, none⟩ (.int .i64 ((rd_T121 l0 x17_1).f1.f3.f0)) hn273_6 hx273_7; replace hx273_8 := cf ⟨gb272, 6, none⟩ (.int .i64 ((rd_T121 l0 x17_1).f1.f3.f0)) hn273_6 hx273_8; replace hx273_0 := cf ⟨gb272, 7, none⟩ (.int .i64 ((rd_T121 l0 x17_1).f1.f3.f1)) hn273_7 hx273_0; replace hx273_1 := cf ⟨gb272, 7, none⟩ (.int .i64 ((rd_T121 l0 x17_1).f1.f3.f1)) hn273_7 hx273_1; replace hx273_2 := cf ⟨gb272, 7, none⟩ (.int .i64 ((rd_T121 l0 x17_1).f1.f3.f1)) hn273_7 hx273_2; replace hx273_3 := cf ⟨gb272, 7, none⟩ (.int .i64 ((rd_T121 l0 x17_1).f1.f3.f1)) hn273_7 hx273_3; replace hx273_4 := cf ⟨gb272, 7, none⟩ (.int .i64 ((rd_T121 l0 x17_1).f1.f3.f1)) hn273_7 hx273_4; replace hx273_5 := cf ⟨gb272, 7, none⟩ (.int .i64 ((rd_T121 l0 x17_1).f1.f3.f1)) hn273_7 hx273_5; replace hx273_6 := cf ⟨gb272, 7, none⟩ (.int .i64 ((rd_T121 l0 x17_1).f1.f3.f1)) hn273_7 hx273_6; replace hx273_7 := cf ⟨gb272, 7, none⟩ (.int .i64 ((rd_T121 l0 x17_1).f1.f3.f1)) hn273_7 hx273_7; replace hx273_8 := cf ⟨gb272, 7, none⟩ (.int .i64 ((rd_T121 l0 x17_1).f1.f3.f1)) hn273_7 hx273_8; replace hx273_0 := cf ⟨gb272, 8, none⟩ (.int .i64 ((rd_T121 l0 x17_1).f1.f3.f2)) hn273_8 hx273_0; replace hx273_1 := cf ⟨gb272, 8, none⟩ (.int .i64 ((rd_T121 l0 x17_1).f1.f3.f2)) hn273_8 hx273_1; replace hx273_2 := cf ⟨gb272, 8, none⟩ (.int .i64 ((rd_T121 l0 x17_1).f1.f3.f2)) hn273_8 hx273_2; replace hx273_3 := cf ⟨gb272, 8, none⟩ (.int .i64 ((rd_T121 l0 x17_1).f1.f3.f2)) hn273_8 hx273_3; replace hx273_4 := cf ⟨gb272, 8, none⟩ (.int .i64 ((rd_T121 l0 x17_1).f1.f3.f2)) hn273_8 hx273_4; replace hx273_5 := cf ⟨gb272, 8, none⟩ (.int .i64 ((rd_T121 l0 x17_1).f1.f3.f2)) hn273_8 hx273_5; replace hx273_6 := cf ⟨gb272, 8, none⟩ (.int .i64 ((rd_T121 l0 x17_1).f1.f3.f2)) hn273_8 hx273_6; replace hx273_7 := cf ⟨gb272, 8, none⟩ (.int .i64 ((rd_T121 l0 x17_1).f1.f3.f2)) hn273_8 hx273_7; replace hx273_8 := cf ⟨gb272, 8, none⟩ (.int .i64 ((rd_T121 l0 x17_1).f1.f3.f2)) hn273_8 hx273_8; clear hn273_0; clear hn273_1; clear hn273_2; clear hn273_3; clear hn273_4; clear hn273_5; clear hn273_6; clear hn273_7; clear hn273_8; replace p273 := eq_true p273; replace q273 := eq_true q273) | ((with_reducible refine gate_dst (N := 9) rfl ?_); refine bx #[.slice none 0 0, .int .i64 0, .bool false, .int .i64 0, .int .i64 0, .int .i64 0, .int .i64 0, .int .i64 0, .int .i64 0] 121 ?_; intro gb274 hg w20 hbox hb; have BK274 := Aside0.mk hbox; have GW274 := bg hg; have GE274 := bg hg; have NB272_274 := Aside0.mk ((by rw [hg]; exact Nat.ne_of_lt (blk_lt (g := gb272) (o := .cells #[.slice A271_0 ((rd_T121 l0 x17_1).f0).length c271_0, .int .i64 ((rd_T121 l0 x17_1).f1.f0), .bool ((rd_T121 l0 x17_1).f1.f1), .int .i64 ((rd_T121 l0 x17_1).f1.f2.f0), .int .i64 ((rd_T121 l0 x17_1).f1.f2.f1), .int .i64 ((rd_T121 l0 x17_1).f1.f2.f2), .int .i64 ((rd_T121 l0 x17_1).f1.f3.f0), .int .i64 ((rd_T121 l0 x17_1).f1.f3.f1), .int .i64 ((rd_T121 l0 x17_1).f1.f3.f2)] 121 (0, 0)) (by refine bk (h := ?_); refine blk_put (cs := #[.slice A271_0 ((rd_T121 l0 x17_1).f0).length c271_0, .int .i64 ((rd_T121 l0 x17_1).f1.f0), .bool ((rd_T121 l0 x17_1).f1.f1), .int .i64 ((rd_T121 l0 x17_1).f1.f2.f0), .int .i64 ((rd_T121 l0 x17_1).f1.f2.f1), .int .i64 ((rd_T121 l0 x17_1).f1.f2.f2), .int .i64 ((rd_T121 l0 x17_1).f1.f3.f0), .int .i64 ((rd_T121 l0 x17_1).f1.f3.f1), .int .i64 0]) ?_ 8 _ rfl; refine bk (h := ?_); refine blk_put (cs := #[.slice A271_0 ((rd_T121 l0 x17_1).f0).length c271_0, .int .i64 ((rd_T121 l0 x17_1).f1.f0), .bool ((rd_T121 l0 x17_1).f1.f1), .int .i64 ((rd_T121 l0 x17_1).f1.f2.f0), .int .i64 ((rd_T121 l0 x17_1).f1.f2.f1), .int .i64 ((rd_T121 l0 x17_1).f1.f2.f2), .int .i64 ((rd_T121 l0 x17_1).f1.f3.f0), .int .i64 0, .int .i64 0]) ?_ 7 _ rfl; refine bk (h := ?_); refine blk_put (cs := #[.slice A271_0 ((rd_T121 l0 x17_1).f0).length c271_0, .int .i64 ((rd_T121 l0 x17_1).f1.f0), .bool ((rd_T121 l0 x17_1).f1.f1), .int .i64 ((rd_T121 l0 x17_1).f1.f2.f0), .int .i64 ((rd_T121 l0 x17_1).f1.f2.f1), .int .i64 ((rd_T121 l0 x17_1).f1.f2.f2), .int .i64 0, .int .i64 0, .int .i64 0]) ?_ 6 _ rfl; refine bk (h := ?_); refine blk_put (cs := #[.slice A271_0 ((rd_T121 l0 x17_1).f0).length c271_0, .int .i64 ((rd_T121 l0 x17_1).f1.f0), .bool ((rd_T121 l0 x17_1).f1.f1), .int .i64 ((rd_T121 l0 x17_1).f1.f2.f0), .int .i64 ((rd_T121 l0 x17_1).f1.f2.f1), .int .i64 0, .int .i64 0, .int .i64 0, .int .i64 0]) ?_ 5 _ rfl; refine bk (h := ?_); refine blk_put (cs := #[.slice A271_0 ((rd_T121 l0 x17_1).f0).length c271_0, .int .i64 ((rd_T121 l0 x17_1).f1.f0), .bool ((rd_T121 l0 x17_1).f1.f1), .int .i64 ((rd_T121 l0 x17_1).f1.f2.f0), .int .i64 0, .int .i64 0, .int .i64 0, .int .i64 0, .int .i64 0]) ?_ 4 _ rfl; refine bk (h := ?_); refine blk_put (cs := #[.slice A271_0 ((rd_T121 l0 x17_1).f0).length c271_0, .int .i64 ((rd_T121 l0 x17_1).f1.f0), .bool ((rd_T121 l0 x17_1).f1.f1), .int .i64 0, .int .i64 0, .int .i64 0, .int .i64 0, .int .i64 0, .int .i64 0]) ?_ 3 _ rfl; refine bk (h := ?_); refine blk_put (cs := #[.slice A271_0 ((rd_T121 l0 x17_1).f0).length c271_0, .int .i64 ((rd_T121 l0 x17_1).f1.f0), .bool false, .int .i64 0, .int .i64 0, .int .i64 0, .int .i64 0, .int .i64 0, .int .i64 0]) ?_ 2 _ rfl; refine bk (h := ?_); refine blk_put (cs := #[.slice A271_0 ((rd_T121 l0 x17_1).f0).length c271_0, .int .i64 0, .bool false, .int .i64 0, .int .i64 0, .int .i64 0, .int .i64 0, .int .i64 0, .int .i64 0]) ?_ 1 _ rfl; refine bk (h := ?_); refine blk_put (cs := #[.slice none 0 0, .int .i64 0, .bool false, .int .i64 0, .int .i64 0, .int .i64 0, .int .i64 0, .int .i64 0, .int .i64 0]) ?_ 0 _ rfl; refine bk (h := ?_); exact BK272.out)) : gb272 ≠ gb274)); have NB274_272 := Aside0.mk ((by rw [hg]; exact Nat.ne_of_gt (blk_lt (g := gb272) (o := .cells #[.slice A271_0 ((rd_T121 l0 x17_1).f0).length c271_0, .int .i64 ((rd_T121 l0 x17_1).f1.f0), .bool ((rd_T121 l0 x17_1).f1.f1), .int .i64 ((rd_T121 l0 x17_1).f1.f2.f0), .int .i64 ((rd_T121 l0 x17_1).f1.f2.f1), .int .i64 ((rd_T121 l0 x17_1).f1.f2.f2), .int .i64 ((rd_T121 l0 x17_1).f1.f3.f0), .int .i64 ((rd_T121 l0 x17_1).f1.f3.f1), .int .i64 ((rd_T121 l0 x17_1).f1.f3.f2)] 121 (0, 0)) (by refine bk (h := ?_); refine blk_put (cs := #[.slice A271_0 ((rd_T121 l0 x17_1).f0).length c271_0, .int .i64 ((rd_T121 l0 x17_1).f1.f0), .bool ((rd_T121 l0 x17_1).f1.f1), .int .i64 ((rd_T121 l0 x17_1).f1.f2.f0), .int .i64 ((rd_T121 l0 x17_1).f1.f2.f1), .int .i64 ((rd_T121 l0 x17_1).f1.f2.f2), .int .i64 ((rd_T121 l0 x17_1).f1.f3.f0), .int .i64 ((rd_T121 l0 x17_1).f1.f3.f1), .int .i64 0]) ?_ 8 _ rfl; refine bk (h := ?_); refine blk_put (cs := #[.slice A271_0 ((rd_T121 l0 x17_1).f0).length c271_0, .int .i64 ((rd_T121 l0 x17_1).f1.f0), .bool ((rd_T121 l0 x17_1).f1.f1), .int .i64 ((rd_T121 l0 x17_1).f1.f2.f0), .int .i64 ((rd_T121 l0 x17_1).f1.f2.f1), .int .i64 ((rd_T121 l0 x17_1).f1.f2.f2), .int .i64 ((rd_T121 l0 x17_1).f1.f3.f0), .int .i64 0, .int .i64 0]) ?_ 7 _ rfl; refine bk (h := ?_); refine blk_put (cs := #[.slice A271_0 ((rd_T121 l0 x17_1).f0).length c271_0, .int .i64 ((rd_T121 l0 x17_1).f1.f0), .bool ((rd_T121 l0 x17_1).f1.f1), .int .i64 ((rd_T121 l0 x17_1).f1.f2.f0), .int .i64 ((rd_T121 l0 x17_1).f1.f2.f1), .int .i64 ((rd_T121 l0 x17_1).f1.f2.f2), .int .i64 0, .int .i64 0, .int .i64 0]) ?_ 6 _ rfl; refine bk (h := ?_); refine blk_put (cs := #[.slice A271_0 ((rd_T121 l0 x17_1).f0).length c271_0, .int .i64 ((rd_T121 l0 x17_1).f1.f0), .bool ((rd_T121 l0 x17_1).f1.f1), .int .i64 ((rd_T121 l0 x17_1).f1.f2.f0), .int .i64 ((rd_T121 l0 x17_1).f1.f2.f1), .int .i64 0, .int .i64 0, .int .i64 0, .int .i64 0]) ?_ 5 _ rfl; refine bk (h := ?_); refine blk_put (cs := #[.slice A271_0 ((rd_T121 l0 x17_1).f0).length c271_0, .int .i64 ((rd_T121 l0 x17_1).f1.f0), .bool ((rd_T121 l0 x17_1).f1.f1), .int .i64 ((rd_T121 l0 x17_1).f1.f2.f0), .int .i64 0, .int .i64 0, .int .i64 0, .int .i64 0, .int .i64 0]) ?_ 4 _ rfl; refine bk (h := ?_); refine blk_put (cs := #[.slice A271_0 ((rd_T121 l0 x17_1).f0).length c271_0, .int .i64 ((rd_T121 l0 x17_1).f1.f0), .bool ((rd_T121 l0 x17_1).f1.f1), .int .i64 0, .int .i64 0, .int .i64 0, .int .i64 0, .int .i64 0, .int .i64 0]) ?_ 3 _ rfl; refine bk (h := ?_); refine blk_put (cs := #[.slice A271_0 ((rd_T121 l0 x17_1).f0).length c271_0, .int .i64 ((rd_T121 l0 x17_1).f1.f0), .bool false, .int .i64 0, .int .i64 0, .int .i64 0, .int .i64 0, .int .i64 0, .int .i64 0]) ?_ 2 _ rfl; refine bk (h := ?_); refine blk_put (cs := #[.slice A271_0 ((rd_T121 l0 x17_1).f0).length c271_0, .int .i64 0, .bool false, .int .i64 0, .int .i64 0, .int .i64 0, .int .i64 0, .int .i64 0, .int .i64 0]) ?_ 1 _ rfl; refine bk (h := ?_); refine blk_put (cs := #[.slice none 0 0, .int .i64 0, .bool false, .int .i64 0, .int .i64 0, .int .i64 0, .int .i64 0, .int .i64 0, .int .i64 0]) ?_ 0 _ rfl; refine bk (h := ?_); exact BK272.out)) : gb274 ≠ gb272)); replace BK272 := Aside0.mk (blk_below (g := gb272) (o := .cells #[.slice A271_0 ((rd_T121 l0 x17_1).f0).length c271_0, .int .i64 ((rd_T121 l0 x17_1).f1.f0), .bool ((rd_T121 l0 x17_1).f1.f1), .int .i64 ((rd_T121 l0 x17_1).f1.f2.f0), .int .i64 ((rd_T121 l0 x17_1).f1.f2.f1), .int .i64 ((rd_T121 l0 x17_1).f1.f2.f2), .int .i64 ((rd_T121 l0 x17_1).f1.f3.f0), .int .i64 ((rd_T121 l0 x17_1).f1.f3.f1), .int .i64 ((rd_T121 l0 x17_1).f1.f3.f2)] 121 (0, 0)) (by refine bk (h := ?_); refine blk_put (cs := #[.slice A271_0 ((rd_T121 l0 x17_1).f0).length c271_0, .int .i64 ((rd_T121 l0 x17_1).f1.f0), .bool ((rd_T121 l0 x17_1).f1.f1), .int .i64 ((rd_T121 l0 x17_1).f1.f2.f0), .int .i64 ((rd_T121 l0 x17_1).f1.f2.f1), .int .i64 ((rd_T121 l0 x17_1).f1.f2.f2), .int .i64 ((rd_T121 l0 x17_1).f1.f3.f0), .int .i64 ((rd_T121 l0 x17_1).f1.f3.f1), .int .i64 0]) ?_ 8 _ rfl; refine bk (h := ?_); refine blk_put (cs := #[.slice A271_0 ((rd_T121 l0 x17_1).f0).length c271_0, .int .i64 ((rd_T121 l0 x17_1).f1.f0), .bool ((rd_T121 l0 x17_1).f1.f1), .int .i64 ((rd_T121 l0 x17_1).f1.f2.f0), .int .i64 ((rd_T121 l0 x17_1).f1.f2.f1), .int .i64 ((rd_T121 l0 x17_1).f1.f2.f2), .int .i64 ((rd_T121 l0 x17_1).f1.f3.f0), .int .i64 0, .int .i64 0]) ?_ 7 _ rfl; refine bk (h := ?_); refine blk_put (cs := #[.slice A271_0 ((rd_T121 l0 x17_1).f0).length c271_0, .int .i64 ((rd_T121 l0 x17_1).f1.f0), .bool ((rd_T121 l0 x17_1).f1.f1), .int .i64 ((rd_T121 l0 x17_1).f1.f2.f0), .int .i64 ((rd_T121 l0 x17_1).f1.f2.f1), .int .i64 ((rd_T121 l0 x17_1).f1.f2.f2), .int .i64 0, .int .i64 0, .int .i64 0]) ?_ 6 _ rfl; refine bk (h := ?_); refine blk_put (cs := #[.slice A271_0 ((rd_T121 l0 x17_1).f0).length c271_0, .int .i64 ((rd_T121 l0 x17_1).f1.f0), .bool ((rd_T121 l0 x17_1).f1.f1), .int .i64 ((rd_T121 l0 x17_1).f1.f2.f0), .int .i64 ((rd_T121 l0 x17_1).f1.f2.f1), .int .i64 0, .int .i64 0, .int .i64 0, .int .i64 0]) ?_ 5 _ rfl; refine bk (h := ?_); refine blk_put (cs := #[.slice A271_0 ((rd_T121 l0 x17_1).f0).length c271_0, .int .i64 ((rd_T121 l0 x17_1).f1.f0), .bool ((rd_T121 l0 x17_1).f1.f1), .int .i64 ((rd_T121 l0 x17_1).f1.f2.f0), .int .i64 0, .int .i64 0, .int .i64 0, .int .i64 0, .int .i64 0]) ?_ 4 _ rfl; refine bk (h := ?_); refine blk_put (cs := #[.slice A271_0 ((rd_T121 l0 x17_1).f0).length c271_0, .int .i64 ((rd_T121 l0 x17_1).f1.f0), .bool ((rd_T121 l0 x17_1).f1.f1), .int .i64 0, .int .i64 0, .int .i64 0, .int .i64 0, .int .i64 0, .int .i64 0]) ?_ 3 _ rfl; refine bk (h := ?_); refine blk_put (cs := #[.slice A271_0 ((rd_T121 l0 x17_1).f0).length c271_0, .int .i64 ((rd_T121 l0 x17_1).f1.f0), .bool false, .int .i64 0, .int .i64 0, .int .i64 0, .int .i64 0, .int .i64 0, .int .i64 0]) ?_ 2 _ rfl; refine bk (h := ?_); refine blk_put (cs := #[.slice A271_0 ((rd_T121 l0 x17_1).f0).length c271_0, .int .i64 0, .bool false, .int .i64 0, .int .i64 0, .int .i64 0, .int .i64 0, .int .i64 0, .int .i64 0]) ?_ 1 _ rfl; refine bk (h := ?_); refine blk_put (cs := #[.slice none 0 0, .int .i64 0, .bool false, .int .i64 0, .int .i64 0, .int .i64 0, .int .i64 0, .int .i64 0, .int .i64 0]) ?_ 0 _ rfl; refine bk (h := ?_); exact BK272.out) hb); replace HB := bs hb; clear hb hbox hg; have hnb21 := NB274_272.out; have hnc21 := NB272_274.out; obtain ⟨z22_0, z22_1, z22_2, z22_3, z22_4, z22_5, z22_6, z22_7, z22_8, y22_0, y22_1, y22_2, y22_3, y22_4, y22_5, y22_6, y22_7, y22_8⟩ := bq9 BK274; obtain ⟨z23_0, z23_1, z23_2, z23_3, z23_4, z23_5, z23_6, z23_7, z23_8, y23_0, y23_1, y23_2, y23_3, y23_4, y23_5, y23_6, y23_7, y23_8⟩ := bq9 BK272) | ((refine gate_fv (f := 139) rfl (by rfl) ?_); refine goesLV_ (some 29) rfl rfl Try.func139 (by kernel_rfl) rfl #[.agg #[.slice A271_0 ((rd_T121 l0 x17_1).f0).length c271_0, .int .i64 ((rd_T121 l0 x17_1).f1.f0), .bool ((rd_T121 l0 x17_1).f1.f1), .int .i64 ((rd_T121 l0 x17_1).f1.f2.f0), .int .i64 ((rd_T121 l0 x17_1).f1.f2.f1), .int .i64 ((rd_T121 l0 x17_1).f1.f2.f2), .int .i64 ((rd_T121 l0 x17_1).f1.f3.f0), .int .i64 ((rd_T121 l0 x17_1).f1.f3.f1), .int .i64 ((rd_T121 l0 x17_1).f1.f3.f2)], .agg #[.slice A273_0 ((rd_T121 l1 x17_1).f0).length c273_0, .int .i64 ((rd_T121 l1 x17_1).f1.f0), .bool ((rd_T121 l1 x17_1).f1.f1), .int .i64 ((rd_T121 l1 x17_1).f1.f2.f0), .int .i64 ((rd_T121 l1 x17_1).f1.f2.f1), .int .i64 ((rd_T121 l1 x17_1).f1.f2.f2), .int .i64 ((rd_T121 l1 x17_1).f1.f3.f0), .int .i64 ((rd_T121 l1 x17_1).f1.f3.f1), .int .i64 ((rd_T121 l1 x17_1).f1.f3.f2)]] rfl (by rfl) (by (try simp only [List.map_toArray, List.map_cons, List.map_nil]); first | done | rfl | (simp only [List.length_drop, List.length_take]; rfl)) ?_; (with_reducible refine (impl_SameState_1.calls k1 _ _ ((rd_T121 l0 x17_1).f0) ((rd_T121 l0 x17_1).f1.f0) ((rd_T121 l0 x17_1).f1.f1) ((rd_T121 l0 x17_1).f1.f2.f0) ((rd_T121 l0 x17_1).f1.f2.f1) ((rd_T121 l0 x17_1).f1.f2.f2) ((rd_T121 l0 x17_1).f1.f3.f0) ((rd_T121 l0 x17_1).f1.f3.f1) ((rd_T121 l0 x17_1).f1.f3.f2) _ _ ((rd_T121 l1 x17_1).f0) ((rd_T121 l1 x17_1).f1.f0) ((rd_T121 l1 x17_1).f1.f1) ((rd_T121 l1 x17_1).f1.f2.f0) ((rd_T121 l1 x17_1).f1.f2.f1) ((rd_T121 l1 x17_1).f1.f2.f2) ((rd_T121 l1 x17_1).f1.f3.f0) ((rd_T121 l1 x17_1).f1.f3.f1) ((rd_T121 l1 x17_1).f1.f3.f2) false _ ?side1 ?side2 ?side3 ?side4 A9.out).mono ?_); (case side1 => exact Kd.C_below HR271_0.out bw); (case side2 => exact HC271_0.out); (case side3 => exact Kd.C_below HR273_0.out bw); (case side4 => exact HC273_0.out); rintro e w24 ⟨rfl, hb⟩; refine ⟨_, rfl, ?_⟩; replace BK272 := Aside0.mk (blk_below (g := gb272) (o := .cells #[.slice A271_0 ((rd_T121 l0 x17_1).f0).length c271_0, .int .i64 ((rd_T121 l0 x17_1).f1.f0), .bool ((rd_T121 l0 x17_1).f1.f1), .int .i64 ((rd_T121 l0 x17_1).f1.f2.f0), .int .i64 ((rd_T121 l0 x17_1).f1.f2.f1), .int .i64 ((rd_T121 l0 x17_1).f1.f2.f2), .int .i64 ((rd_T121 l0 x17_1).f1.f3.f0), .int .i64 ((rd_T121 l0 x17_1).f1.f3.f1), .int .i64 ((rd_T121 l0 x17_1).f1.f3.f2)] 121 (0, 0)) (by refine bk (h := ?_); refine blk_far ?_ NB272_274.out _; refine bk (h := ?_); refine blk_far ?_ NB272_274.out _; refine bk (h := ?_); refine blk_far ?_ NB272_274.out _; refine bk (h := ?_); refine blk_far ?_ NB272_274.out _; refine bk (h := ?_); refine blk_far ?_ NB272_274.out _; refine bk (h := ?_); refine blk_far ?_ NB272_274.out _; refine bk (h := ?_); refine blk_far ?_ NB272_274.out _; refine bk (h := ?_); refine blk_far ?_ NB272_274.out _; refine bk (h := ?_); refine blk_far ?_ NB272_274.out _; refine bk (h := ?_); exact BK272.out) hb); replace BK274 := Aside0.mk (blk_below (g := gb274) (o := .cells #[.slice A273_0 ((rd_T121 l1 x17_1).f0).length c273_0, .int .i64 ((rd_T121 l1 x17_1).f1.f0), .bool ((rd_T121 l1 x17_1).f1.f1), .int .i64 ((rd_T121 l1 x17_1).f1.f2.f0), .int .i64 ((rd_T121 l1 x17_1).f1.f2.f1), .int .i64 ((rd_T121 l1 x17_1).f1.f2.f2), .int .i64 ((rd_T121 l1 x17_1).f1.f3.f0), .int .i64 ((rd_T121 l1 x17_1).f1.f3.f1), .int .i64 ((rd_T121 l1 x17_1).f1.f3.f2)] 121 (0, 0)) (by refine bk (h := ?_); refine blk_put (cs := #[.slice A273_0 ((rd_T121 l1 x17_1).f0).length c273_0, .int .i64 ((rd_T121 l1 x17_1).f1.f0), .bool ((rd_T121 l1 x17_1).f1.f1), .int .i64 ((rd_T121 l1 x17_1).f1.f2.f0), .int .i64 ((rd_T121 l1 x17_1).f1.f2.f1), .int .i64 ((rd_T121 l1 x17_1).f1.f2.f2), .int .i64 ((rd_T121 l1 x17_1).f1.f3.f0), .int .i64 ((rd_T121 l1 x17_1).f1.f3.f1), .int .i64 0]) ?_ 8 _ rfl; refine bk (h := ?_); refine blk_put (cs := #[.slice A273_0 ((rd_T121 l1 x17_1).f0).length c273_0, .int .i64 ((rd_T121 l1 x17_1).f1.f0), .bool ((rd_T121 l1 x17_1).f1.f1), .int .i64 ((rd_T121 l1 x17_1).f1.f2.f0), .int .i64 ((rd_T121 l1 x17_1).f1.f2.f1), .int .i64 ((rd_T121 l1 x17_1).f1.f2.f2), .int .i64 ((rd_T121 l1 x17_1).f1.f3.f0), .int .i64 0, .int .i64 0]) ?_ 7 _ rfl; refine bk (h := ?_); refine blk_put (cs := #[.slice A273_0 ((rd_T121 l1 x17_1).f0).length c273_0, .int .i64 ((rd_T121 l1 x17_1).f1.f0), .bool ((rd_T121 l1 x17_1).f1.f1), .int .i64 ((rd_T121 l1 x17_1).f1.f2.f0), .int .i64 ((rd_T121 l1 x17_1).f1.f2.f1), .int .i64 ((rd_T121 l1 x17_1).f1.f2.f2), .int .i64 0, .int .i64 0, .int .i64 0]) ?_ 6 _ rfl; refine bk (h := ?_); refine blk_put (cs := #[.slice A273_0 ((rd_T121 l1 x17_1).f0).length c273_0, .int .i64 ((rd_T121 l1 x17_1).f1.f0), .bool ((rd_T121 l1 x17_1).f1.f1), .int .i64 ((rd_T121 l1 x17_1).f1.f2.f0), .int .i64 ((rd_T121 l1 x17_1).f1.f2.f1), .int .i64 0, .int .i64 0, .int .i64 0, .int .i64 0]) ?_ 5 _ rfl; refine bk (h := ?_); refine blk_put (cs := #[.slice A273_0 ((rd_T121 l1 x17_1).f0).length c273_0, .int .i64 ((rd_T121 l1 x17_1).f1.f0), .bool ((rd_T121 l1 x17_1).f1.f1), .int .i64 ((rd_T121 l1 x17_1).f1.f2.f0), .int .i64 0, .int .i64 0, .int .i64 0, .int .i64 0, .int .i64 0]) ?_ 4 _ rfl; refine bk (h := ?_); refine blk_put (cs := #[.slice A273_0 ((rd_T121 l1 x17_1).f0).length c273_0, .int .i64 ((rd_T121 l1 x17_1).f1.f0), .bool ((rd_T121 l1 x17_1).f1.f1), .int .i64 0, .int .i64 0, .int .i64 0, .int .i64 0, .int .i64 0, .int .i64 0]) ?_ 3 _ rfl; refine bk (h := ?_); refine blk_put (cs := #[.slice A273_0 ((rd_T121 l1 x17_1).f0).length c273_0, .int .i64 ((rd_T121 l1 x17_1).f1.f0), .bool false, .int .i64 0, .int .i64 0, .int .i64 0, .int .i64 0, .int .i64 0, .int .i64 0]) ?_ 2 _ rfl; refine bk (h := ?_); refine blk_put (cs := #[.slice A273_0 ((rd_T121 l1 x17_1).f0).length c273_0, .int .i64 0, .bool false, .int .i64 0, .int .i64 0, .int .i64 0, .int .i64 0, .int .i64 0, .int .i64 0]) ?_ 1 _ rfl; refine bk (h := ?_); refine blk_put (cs := #[.slice none 0 0, .int .i64 0, .bool false, .int .i64 0, .int .i64 0, .int .i64 0, .int .i64 0, .int .i64 0, .int .i64 0]) ?_ 0 _ rfl; refine bk (h := ?_); exact BK274.out) hb); replace HB := bs hb; (try clear hb); (try clear hb2); (try clear hk); (try clear hi)))
                  go_ret
                  exact ⟨er, bw⟩
              · rw [if_neg c8] at H
                exact absurd H (by simp)
            · rw [if_neg c7] at H
              exact absurd H (by simp)
          · rw [if_neg c6] at H
            exact absurd H (by simp)
        · rw [if_neg c5] at H
          have c5b0 : decide (x17_1 < (l0.length : Int)) = false := decide_eq_false c5
          clear c5
          obtain rfl := Option.some.inj H
          go_wp2
          go_ret
          exact ⟨er, bw⟩
  · rw [if_neg c4] at H
    have c4b0 : ((l0.length : Int) == (l1.length : Int)) = false := beq_eq_false_iff_ne.mpr c4
    have c4b1 : ((l0.length : Int) != (l1.length : Int)) = true := bne_iff_ne.mpr c4
    have c4b2 : (l0.length == l1.length) = false := by first | simpa using c4 | (simp at c4 ⊢; omega)
    obtain rfl := Option.some.inj H
    go_enter Try.func138, Try.ntmps138
    go_wp2
    go_ret
    exact ⟨er, bw⟩

end Go.Proofs.Yteadienaeapaeaa.PC
