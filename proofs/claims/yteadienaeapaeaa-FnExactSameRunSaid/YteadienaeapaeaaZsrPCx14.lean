-- Made by a program of this session (myprint.py) out of the translation.
import Derived.Test.YteadienaeapaeaaZsrPCx0
import Derived.Test.YteadienaeapaeaaZsrPCx4
import Derived.Test.YteadienaeapaeaaZsrPCx6
import Derived.Test.YteadienaeapaeaaZsrPCx8
import Derived.Test.YteadienaeapaeaaZsrPCx9
import Derived.Test.YteadienaeapaeaaZsrPCx13
import Derived.Test.YteadienaeapaeaaZsrShort
namespace Go.Proofs.Yteadienaeapaeaa.PC
open Go.Proofs.Yteadienaeapaeaa.Short
open Go.Proofs.Yteadienaeapaeaa.Dyn
open Go.RowKit Go.Proofs.YteadienaeapaeaaW.PrintWords Go.Proofs.YteadienaeapaeaaW.PrintLast Go.Proofs.YteadienaeapaeaaW.PrintMore
attribute [local go_sem] max2_int min2_int max_two min_two max_three min_three max_four min_four   -- for this text's walks alone
set_option linter.unusedVariables false
set_option linter.unusedSimpArgs false

/-! ### laws_FnExactSameRun: function 4 -/
def laws_FnExactSameRun.f (k : Nat) (l0_0 : List (S161)) (l0_1 : List (S167)) (l1_0 : List (S161)) (l1_1 : List (S167)) : Option (Bool) := (laws_szRun.f k l0_0 l0_1 1048576).bind fun t335 => (if t335 < 0 then (some true) else ((laws_szRun.f k l1_0 l1_1 t335).bind fun t336 => (if t336 < 0 then (some true) else ((laws_toRun.f k l0_0 l0_1).bind fun bt337 => ((laws_toRun.f k l1_0 l1_1).bind fun bt343 => ((spec_SameRun.f k bt337.1 bt337.2 bt343.1 bt343.2).bind fun t349 => ((laws_toRun.f k l0_0 l0_1).bind fun bt350 => ((laws_toRun.f k l1_0 l1_1).bind fun bt357 => ((impl_SameRun.f k bt350.1 bt350.2 bt357.1 bt357.2).bind fun t364 => (if (t364 != t349) = true then (some false) else ((laws_toRun.f k l0_0 l0_1).bind fun bt365 => ((laws_eqRun.f k bt350.1 bt350.2 bt365.1 bt365.2).bind fun t371 => (if t371 = true then ((laws_toRun.f k l1_0 l1_1).bind fun bt372 => ((laws_eqRun.f k bt357.1 bt357.2 bt372.1 bt372.2).bind fun t378 => (if t378 = true then (some true) else (some false)))) else (some false))))))))))))))
theorem laws_FnExactSameRun.mono : ∀ a0 a1 a2 a3 k, LeO (laws_FnExactSameRun.f k a0 a1 a2 a3) (laws_FnExactSameRun.f (k + 1) a0 a1 a2 a3) := by
  intro a0 a1 a2 a3 k
  unfold laws_FnExactSameRun.f
  repeat' first
      | (with_reducible exact impl_SameRun.mono _ _ _ _ _)
      | (with_reducible exact laws_eqRun.mono _ _ _ _ _)
      | (with_reducible exact laws_szRun.mono _ _ _ _)
      | (with_reducible exact laws_toRun.mono _ _ _)
      | (with_reducible exact spec_SameRun.mono _ _ _ _ _)
      | (with_reducible exact LeO.refl _)
      | (with_reducible exact LeO.none _)
      | (with_reducible refine LeO.ite ?_ ?_)
      | (with_reducible refine LeO.bind ?_ (fun _ => ?_))
      | exact impl_SameRun.mono _ _ _ _ _
      | exact laws_eqRun.mono _ _ _ _ _
      | exact laws_szRun.mono _ _ _ _
      | exact laws_toRun.mono _ _ _
      | exact spec_SameRun.mono _ _ _ _ _
      | exact LeO.none _
      | refine LeO.ite ?_ ?_
      | refine LeO.bind ?_ (fun _ => ?_)
set_option maxHeartbeats 8000000 in
set_option maxRecDepth 100000 in
theorem laws_FnExactSameRun.calls (k : Nat) (A0_0 : Option Addr) (c0_0 : Nat) (l0_0 : List (S161)) (A0_1 : Option Addr) (c0_1 : Nat) (l0_1 : List (S167)) (A1_0 : Option Addr) (c1_0 : Nat) (l1_0 : List (S161)) (A1_1 : Option Addr) (c1_1 : Nat) (l1_1 : List (S167)) (r : Bool) (w : World) (hr0_0 : Kd.C k161 w A0_0 l0_0.length l0_0) (hc0_0 : l0_0.length ≤ c0_0) (hr0_1 : Kd.C k167 w A0_1 l0_1.length l0_1) (hc0_1 : l0_1.length ≤ c0_1) (hr1_0 : Kd.C k161 w A1_0 l1_0.length l1_0) (hc1_0 : l1_0.length ≤ c1_0) (hr1_1 : Kd.C k167 w A1_1 l1_1.length l1_1) (hc1_1 : l1_1.length ≤ c1_1) (h : laws_FnExactSameRun.f k l0_0 l0_1 l1_0 l1_1 = some r) :
    Calls Try.prog 4 #[.agg #[.slice A0_0 l0_0.length c0_0, .slice A0_1 l0_1.length c0_1], .agg #[.slice A1_0 l1_0.length c1_0, .slice A1_1 l1_1.length c1_1]] w fun e w' => e = .returned (.bool r) ∧ Below w.heap.size w w' := by
  have hu37 := Try.underlying37
  have hu43 := Try.underlying43
  have HR0_0 := Aside0.mk hr0_0
  have HC0_0 := Aside0.mk hc0_0
  clear hr0_0 hc0_0
  have HR0_1 := Aside0.mk hr0_1
  have HC0_1 := Aside0.mk hc0_1
  clear hr0_1 hc0_1
  have HR1_0 := Aside0.mk hr1_0
  have HC1_0 := Aside0.mk hc1_0
  clear hr1_0 hc1_0
  have HR1_1 := Aside0.mk hr1_1
  have HC1_1 := Aside0.mk hc1_1
  clear hr1_1 hc1_1
  have HB := Aside0.mk (Below.refl w.heap.size w)
  have H : ((laws_szRun.f k l0_0 l0_1 1048576).bind fun t335 => (if t335 < 0 then (some true) else ((laws_szRun.f k l1_0 l1_1 t335).bind fun t336 => (if t336 < 0 then (some true) else ((laws_toRun.f k l0_0 l0_1).bind fun bt337 => ((laws_toRun.f k l1_0 l1_1).bind fun bt343 => ((spec_SameRun.f k bt337.1 bt337.2 bt343.1 bt343.2).bind fun t349 => ((laws_toRun.f k l0_0 l0_1).bind fun bt350 => ((laws_toRun.f k l1_0 l1_1).bind fun bt357 => ((impl_SameRun.f k bt350.1 bt350.2 bt357.1 bt357.2).bind fun t364 => (if (t364 != t349) = true then (some false) else ((laws_toRun.f k l0_0 l0_1).bind fun bt365 => ((laws_eqRun.f k bt350.1 bt350.2 bt365.1 bt365.2).bind fun t371 => (if t371 = true then ((laws_toRun.f k l1_0 l1_1).bind fun bt372 => ((laws_eqRun.f k bt357.1 bt357.2 bt372.1 bt372.2).bind fun t378 => (if t378 = true then (some true) else (some false)))) else (some false))))))))))))))) = some r := h
  clear h
  replace H := Option.bind_eq_some_iff.mp H
  obtain ⟨t335, A30, H⟩ := H
  replace H : (if t335 < 0 then (some true) else ((laws_szRun.f k l1_0 l1_1 t335).bind fun t336 => (if t336 < 0 then (some true) else ((laws_toRun.f k l0_0 l0_1).bind fun bt337 => ((laws_toRun.f k l1_0 l1_1).bind fun bt343 => ((spec_SameRun.f k bt337.1 bt337.2 bt343.1 bt343.2).bind fun t349 => ((laws_toRun.f k l0_0 l0_1).bind fun bt350 => ((laws_toRun.f k l1_0 l1_1).bind fun bt357 => ((impl_SameRun.f k bt350.1 bt350.2 bt357.1 bt357.2).bind fun t364 => (if (t364 != t349) = true then (some false) else ((laws_toRun.f k l0_0 l0_1).bind fun bt365 => ((laws_eqRun.f k bt350.1 bt350.2 bt365.1 bt365.2).bind fun t371 => (if t371 = true then ((laws_toRun.f k l1_0 l1_1).bind fun bt372 => ((laws_eqRun.f k bt357.1 bt357.2 bt372.1 bt372.2).bind fun t378 => (if t378 = true then (some true) else (some false)))) else (some false)))))))))))))) = some r := H
  have A3 := Aside0.mk A30
  clear A30
  by_cases c4 : t335 < 0
  · rw [if_pos c4] at H
    have c4b0 : decide (t335 < 0) = true := decide_eq_true c4
    clear c4
    obtain rfl := Option.some.inj H
    go_enter Try.func4, Try.ntmps4
    go_wp2_with (first | ((with_reducible refine gate_dst (N := 2) rfl ?_); refine bx #[.slice A0_0 l0_0.length c0_0, .slice A0_1 l0_1.length c0_1] 37 ?_; intro gb333 hg w5 hbox hb; have BK333 := Aside0.mk hbox; have GW333 := bg hg; have GE333 := bg hg; replace HB := bs hb; clear hb hbox hg) | ((with_reducible refine gate_dst (N := 3) rfl ?_); refine bx #[.slice A1_0 l1_0.length c1_0, .slice A1_1 l1_1.length c1_1] 37 ?_; intro gb334 hg w6 hbox hb; have BK334 := Aside0.mk hbox; have GW334 := bg hg; have GE334 := bg hg; have NB333_334 := bl BK333 hg; have NB334_333 := bv BK333 hg; replace BK333 := bb BK333 hb; replace HB := bs hb; clear hb hbox hg; have hnb7 := NB333_334.out; have hnc7 := NB334_333.out; obtain ⟨z8_0, z8_1, y8_0, y8_1⟩ := bq2 BK333) | ((with_reducible refine gate_callee (f := 17) rfl ?_); refine gl (some 12) Try.func17 #[.agg #[.slice A0_0 l0_0.length c0_0, .slice A0_1 l0_1.length c0_1], .int .i64 1048576] ?_; (with_reducible refine (laws_szRun.calls k _ _ l0_0 _ _ l0_1 1048576 t335 _ ?side1 ?side2 ?side3 ?side4 A3.out).mono ?_); (case side1 => exact sd HR0_0); (case side2 => exact HC0_0.out); (case side3 => exact sd HR0_1); (case side4 => exact HC0_1.out); rintro e w9 ⟨rfl, hb⟩; refine ⟨_, rfl, ?_⟩; replace BK333 := bb BK333 hb; replace BK334 := bb BK334 hb; replace HB := bs hb; (try clear hb); (try clear hb2); (try clear hk); (try clear hi)))
    go_ret
    exact ⟨er, bw⟩
  · rw [if_neg c4] at H
    have c4b0 : decide (t335 < 0) = false := decide_eq_false c4
    clear c4
    replace H := Option.bind_eq_some_iff.mp H
    obtain ⟨t336, A100, H⟩ := H
    replace H : (if t336 < 0 then (some true) else ((laws_toRun.f k l0_0 l0_1).bind fun bt337 => ((laws_toRun.f k l1_0 l1_1).bind fun bt343 => ((spec_SameRun.f k bt337.1 bt337.2 bt343.1 bt343.2).bind fun t349 => ((laws_toRun.f k l0_0 l0_1).bind fun bt350 => ((laws_toRun.f k l1_0 l1_1).bind fun bt357 => ((impl_SameRun.f k bt350.1 bt350.2 bt357.1 bt357.2).bind fun t364 => (if (t364 != t349) = true then (some false) else ((laws_toRun.f k l0_0 l0_1).bind fun bt365 => ((laws_eqRun.f k bt350.1 bt350.2 bt365.1 bt365.2).bind fun t371 => (if t371 = true then ((laws_toRun.f k l1_0 l1_1).bind fun bt372 => ((laws_eqRun.f k bt357.1 bt357.2 bt372.1 bt372.2).bind fun t378 => (if t378 = true then (some true) else (some false)))) else (some false)))))))))))) = some r := H
    have A10 := Aside0.mk A100
    clear A100
    by_cases c11 : t336 < 0
    · rw [if_pos c11] at H
      have c11b0 : decide (t336 < 0) = true := decide_eq_true c11
      clear c11
      obtain rfl := Option.some.inj H
      go_enter Try.func4, Try.ntmps4
      go_wp2_with (first | ((with_reducible refine gate_dst (N := 2) rfl ?_); refine bx #[.slice A0_0 l0_0.length c0_0, .slice A0_1 l0_1.length c0_1] 37 ?_; intro gb333 hg w12 hbox hb; have BK333 := Aside0.mk hbox; have GW333 := bg hg; have GE333 := bg hg; replace HB := bs hb; clear hb hbox hg) | ((with_reducible refine gate_dst (N := 3) rfl ?_); refine bx #[.slice A1_0 l1_0.length c1_0, .slice A1_1 l1_1.length c1_1] 37 ?_; intro gb334 hg w13 hbox hb; have BK334 := Aside0.mk hbox; have GW334 := bg hg; have GE334 := bg hg; have NB333_334 := bl BK333 hg; have NB334_333 := bv BK333 hg; replace BK333 := bb BK333 hb; replace HB := bs hb; clear hb hbox hg; have hnb14 := NB333_334.out; have hnc14 := NB334_333.out; obtain ⟨z15_0, z15_1, y15_0, y15_1⟩ := bq2 BK333) | ((with_reducible refine gate_callee (f := 17) rfl ?_); refine gl (some 12) Try.func17 #[.agg #[.slice A0_0 l0_0.length c0_0, .slice A0_1 l0_1.length c0_1], .int .i64 1048576] ?_; (with_reducible refine (laws_szRun.calls k _ _ l0_0 _ _ l0_1 1048576 t335 _ ?side1 ?side2 ?side3 ?side4 A3.out).mono ?_); (case side1 => exact sd HR0_0); (case side2 => exact HC0_0.out); (case side3 => exact sd HR0_1); (case side4 => exact HC0_1.out); rintro e w16 ⟨rfl, hb⟩; refine ⟨_, rfl, ?_⟩; replace BK333 := bb BK333 hb; replace BK334 := bb BK334 hb; replace HB := bs hb; (try clear hb); (try clear hb2); (try clear hk); (try clear hi); obtain ⟨z17_0, z17_1, y17_0, y17_1⟩ := bq2 BK334) | ((with_reducible refine gate_callee (f := 17) rfl ?_); refine gl (some 17) Try.func17 #[.agg #[.slice A1_0 l1_0.length c1_0, .slice A1_1 l1_1.length c1_1], .int .i64 t335] ?_; (with_reducible refine (laws_szRun.calls k _ _ l1_0 _ _ l1_1 t335 t336 _ ?side1 ?side2 ?side3 ?side4 A10.out).mono ?_); (case side1 => exact sd HR1_0); (case side2 => exact HC1_0.out); (case side3 => exact sd HR1_1); (case side4 => exact HC1_1.out); rintro e w18 ⟨rfl, hb⟩; refine ⟨_, rfl, ?_⟩; replace BK333 := bb BK333 hb; replace BK334 := bb BK334 hb; replace HB := bs hb; (try clear hb); (try clear hb2); (try clear hk); (try clear hi)))
      go_ret
      exact ⟨er, bw⟩
    · rw [if_neg c11] at H
      have c11b0 : decide (t336 < 0) = false := decide_eq_false c11
      clear c11
      replace H := Option.bind_eq_some_iff.mp H
      obtain ⟨⟨t337, t340⟩, A190, H⟩ := H
      replace H : ((laws_toRun.f k l1_0 l1_1).bind fun bt343 => ((spec_SameRun.f k t337 t340 bt343.1 bt343.2).bind fun t349 => ((laws_toRun.f k l0_0 l0_1).bind fun bt350 => ((laws_toRun.f k l1_0 l1_1).bind fun bt357 => ((impl_SameRun.f k bt350.1 bt350.2 bt357.1 bt357.2).bind fun t364 => (if (t364 != t349) = true then (some false) else ((laws_toRun.f k l0_0 l0_1).bind fun bt365 => ((laws_eqRun.f k bt350.1 bt350.2 bt365.1 bt365.2).bind fun t371 => (if t371 = true then ((laws_toRun.f k l1_0 l1_1).bind fun bt372 => ((laws_eqRun.f k bt357.1 bt357.2 bt372.1 bt372.2).bind fun t378 => (if t378 = true then (some true) else (some false)))) else (some false)))))))))) = some r := H
      have A19 := Aside0.mk A190
      clear A190
      replace H := Option.bind_eq_some_iff.mp H
      obtain ⟨⟨t343, t346⟩, A200, H⟩ := H
      replace H : ((spec_SameRun.f k t337 t340 t343 t346).bind fun t349 => ((laws_toRun.f k l0_0 l0_1).bind fun bt350 => ((laws_toRun.f k l1_0 l1_1).bind fun bt357 => ((impl_SameRun.f k bt350.1 bt350.2 bt357.1 bt357.2).bind fun t364 => (if (t364 != t349) = true then (some false) else ((laws_toRun.f k l0_0 l0_1).bind fun bt365 => ((laws_eqRun.f k bt350.1 bt350.2 bt365.1 bt365.2).bind fun t371 => (if t371 = true then ((laws_toRun.f k l1_0 l1_1).bind fun bt372 => ((laws_eqRun.f k bt357.1 bt357.2 bt372.1 bt372.2).bind fun t378 => (if t378 = true then (some true) else (some false)))) else (some false))))))))) = some r := H
      have A20 := Aside0.mk A200
      clear A200
      replace H := Option.bind_eq_some_iff.mp H
      obtain ⟨t349, A210, H⟩ := H
      replace H : ((laws_toRun.f k l0_0 l0_1).bind fun bt350 => ((laws_toRun.f k l1_0 l1_1).bind fun bt357 => ((impl_SameRun.f k bt350.1 bt350.2 bt357.1 bt357.2).bind fun t364 => (if (t364 != t349) = true then (some false) else ((laws_toRun.f k l0_0 l0_1).bind fun bt365 => ((laws_eqRun.f k bt350.1 bt350.2 bt365.1 bt365.2).bind fun t371 => (if t371 = true then ((laws_toRun.f k l1_0 l1_1).bind fun bt372 => ((laws_eqRun.f k bt357.1 bt357.2 bt372.1 bt372.2).bind fun t378 => (if t378 = true then (some true) else (some false)))) else (some false)))))))) = some r := H
      have A21 := Aside0.mk A210
      clear A210
      replace H := Option.bind_eq_some_iff.mp H
      obtain ⟨⟨t350, t353⟩, A220, H⟩ := H
      replace H : ((laws_toRun.f k l1_0 l1_1).bind fun bt357 => ((impl_SameRun.f k t350 t353 bt357.1 bt357.2).bind fun t364 => (if (t364 != t349) = true then (some false) else ((laws_toRun.f k l0_0 l0_1).bind fun bt365 => ((laws_eqRun.f k t350 t353 bt365.1 bt365.2).bind fun t371 => (if t371 = true then ((laws_toRun.f k l1_0 l1_1).bind fun bt372 => ((laws_eqRun.f k bt357.1 bt357.2 bt372.1 bt372.2).bind fun t378 => (if t378 = true then (some true) else (some false)))) else (some false))))))) = some r := H
      have A22 := Aside0.mk A220
      clear A220
      replace H := Option.bind_eq_some_iff.mp H
      obtain ⟨⟨t357, t360⟩, A230, H⟩ := H
      replace H : ((impl_SameRun.f k t350 t353 t357 t360).bind fun t364 => (if (t364 != t349) = true then (some false) else ((laws_toRun.f k l0_0 l0_1).bind fun bt365 => ((laws_eqRun.f k t350 t353 bt365.1 bt365.2).bind fun t371 => (if t371 = true then ((laws_toRun.f k l1_0 l1_1).bind fun bt372 => ((laws_eqRun.f k t357 t360 bt372.1 bt372.2).bind fun t378 => (if t378 = true then (some true) else (some false)))) else (some false)))))) = some r := H
      have A23 := Aside0.mk A230
      clear A230
      replace H := Option.bind_eq_some_iff.mp H
      obtain ⟨t364, A240, H⟩ := H
      replace H : (if (t364 != t349) = true then (some false) else ((laws_toRun.f k l0_0 l0_1).bind fun bt365 => ((laws_eqRun.f k t350 t353 bt365.1 bt365.2).bind fun t371 => (if t371 = true then ((laws_toRun.f k l1_0 l1_1).bind fun bt372 => ((laws_eqRun.f k t357 t360 bt372.1 bt372.2).bind fun t378 => (if t378 = true then (some true) else (some false)))) else (some false))))) = some r := H
      have A24 := Aside0.mk A240
      clear A240
      by_cases c25 : (t364 != t349) = true
      · rw [if_pos c25] at H
        have c25b0 : (t364 != t349) = true := c25
        (try (have c25b1 : decide (t364 = t349) = false := by simpa using c25))
        (try (have c25b2 : (t364 == t349) = false := by simpa using c25))
        (try (have c25b3 : ¬ (t364 = t349) := by simpa using c25))
        clear c25
        obtain rfl := Option.some.inj H
        go_enter Try.func4, Try.ntmps4
        try go_wp2_with (first | ((with_reducible refine gate_dst (N := 2) rfl ?_); refine bx #[.slice A0_0 l0_0.length c0_0, .slice A0_1 l0_1.length c0_1] 37 ?_; intro gb333 hg w26 hbox hb; have BK333 := Aside0.mk hbox; have GW333 := bg hg; have GE333 := bg hg; replace HB := bs hb; clear hb hbox hg) | ((with_reducible refine gate_dst (N := 3) rfl ?_); refine bx #[.slice A1_0 l1_0.length c1_0, .slice A1_1 l1_1.length c1_1] 37 ?_; intro gb334 hg w27 hbox hb; have BK334 := Aside0.mk hbox; have GW334 := bg hg; have GE334 := bg hg; have NB333_334 := bl BK333 hg; have NB334_333 := bv BK333 hg; replace BK333 := bb BK333 hb; replace HB := bs hb; clear hb hbox hg; have hnb28 := NB333_334.out; have hnc28 := NB334_333.out; obtain ⟨z29_0, z29_1, y29_0, y29_1⟩ := bq2 BK333) | ((with_reducible refine gate_callee (f := 17) rfl ?_); refine gl (some 12) Try.func17 #[.agg #[.slice A0_0 l0_0.length c0_0, .slice A0_1 l0_1.length c0_1], .int .i64 1048576] ?_; (with_reducible refine (laws_szRun.calls k _ _ l0_0 _ _ l0_1 1048576 t335 _ ?side1 ?side2 ?side3 ?side4 A3.out).mono ?_); (case side1 => exact sd HR0_0); (case side2 => exact HC0_0.out); (case side3 => exact sd HR0_1); (case side4 => exact HC0_1.out); rintro e w30 ⟨rfl, hb⟩; refine ⟨_, rfl, ?_⟩; replace BK333 := bb BK333 hb; replace BK334 := bb BK334 hb; replace HB := bs hb; (try clear hb); (try clear hb2); (try clear hk); (try clear hi); obtain ⟨z31_0, z31_1, y31_0, y31_1⟩ := bq2 BK334) | ((with_reducible refine gate_callee (f := 17) rfl ?_); refine gl (some 17) Try.func17 #[.agg #[.slice A1_0 l1_0.length c1_0, .slice A1_1 l1_1.length c1_1], .int .i64 t335] ?_; (with_reducible refine (laws_szRun.calls k _ _ l1_0 _ _ l1_1 t335 t336 _ ?side1 ?side2 ?side3 ?side4 A10.out).mono ?_); (case side1 => exact sd HR1_0); (case side2 => exact HC1_0.out); (case side3 => exact sd HR1_1); (case side4 => exact HC1_1.out); rintro e w32 ⟨rfl, hb⟩; refine ⟨_, rfl, ?_⟩; replace BK333 := bb BK333 hb; replace BK334 := bb BK334 hb; replace HB := bs hb; (try clear hb); (try clear hb2); (try clear hk); (try clear hi)))
        replace BK333 := Aside0.mk (blk_drew BK333.out)
        replace BK334 := Aside0.mk (blk_drew BK334.out)
        replace HB := Aside0.mk (below_drew1 HB.out)
        refine start_ (n := 6) (S := fun w' => w'.cell? ⟨gb333, 0, none⟩ = some (.slice A0_0 l0_0.length c0_0) ∧ w'.cell? ⟨gb333, 1, none⟩ = some (.slice A0_1 l0_1.length c0_1) ∧ w'.cell? ⟨gb334, 0, none⟩ = some (.slice A1_0 l1_0.length c1_0) ∧ w'.cell? ⟨gb334, 1, none⟩ = some (.slice A1_1 l1_1.length c1_1)) (ds := []) #[false, false, false, false, false, false] (by kernel_rfl) rfl rfl ⟨(blk_cell BK333.out 0).trans rfl, (blk_cell BK333.out 1).trans rfl, (blk_cell BK334.out 0).trans rfl, (blk_cell BK334.out 1).trans rfl⟩ (fun hHeld => ?_)
        generalize w32.drew = w33 at BK333 BK334 HB hHeld ⊢
        refine take_ (i := 0) (N := some 20) (v := ?_) (a' := ?_) #[true, false, false, false, false, false] rfl rfl (by kernel_rfl) (fun _ _ _ h => h) (Or.inl ⟨by rfl, ?_⟩) hHeld ?_ ?_
        rotate_left
        · rintro w' ⟨s0, s1, s2, s3⟩
          go_simp
          with_reducible rfl
        rotate_left
        · simp only [Act.put, List.setIfInBounds_toArray, List.set_cons_zero, List.set_cons_succ, i64_w, i32_w]
          rfl
        refine take_ (i := 2) (N := some 22) (v := ?_) (a' := ?_) #[true, false, true, false, false, false] rfl rfl (by kernel_rfl) (fun _ _ _ h => h) (Or.inl ⟨by rfl, ?_⟩) hHeld ?_ ?_
        rotate_left
        · rintro w' ⟨s0, s1, s2, s3⟩
          go_simp
          with_reducible rfl
        rotate_left
        · simp only [Act.put, List.setIfInBounds_toArray, List.set_cons_zero, List.set_cons_succ, i64_w, i32_w]
          rfl
        refine one_ (i := 1) (N := some 21) #[true, true, true, false, false, false] rfl rfl (by kernel_rfl) (by decide) (fun K hK => ?_)
        refine goes_ Try.func19 (by kernel_rfl) rfl #[.agg #[.slice _ l0_0.length c0_0, .slice _ l0_1.length c0_1]] (by rfl) rfl rfl (by (try simp only [List.map_toArray, List.map_cons, List.map_nil]); first | done | rfl | (simp only [List.length_drop, List.length_take]; rfl)) ?_
        with_reducible refine (laws_toRun.calls k _ _ l0_0 _ _ l0_1 t337 t340 _ ?side1 ?side2 ?side3 ?side4 A19.out).mono ?_
        (case side1 => exact sd HR0_0)
        (case side2 => exact HC0_0.out)
        (case side3 => exact sd HR0_1)
        (case side4 => exact HC0_1.out)
        rintro e w34 ⟨v338, v341, rfl, ho0, ho1, hb⟩
        refine ⟨_, rfl, ?_⟩
        have HO339 := Aside0.mk (Kd.R_lower ho0 (below_size bw))
        have HO342 := Aside0.mk (Kd.R_lower ho1 (below_size bw))
        replace BK333 := bb BK333 hb
        replace BK334 := bb BK334 hb
        replace HB := bs hb
        (try clear hb)
        (try clear hb2)
        (try clear hk)
        (try clear hi)
        (try clear ho0)
        (try clear ho1)
        refine hK.out _ _ ⟨(blk_cell BK333.out 0).trans rfl, (blk_cell BK333.out 1).trans rfl, (blk_cell BK334.out 0).trans rfl, (blk_cell BK334.out 1).trans rfl⟩ (fun hHeld => ?_)
        clear hK K
        refine norm_ (a' := ?_) ?_ ?_
        rotate_left
        · show Act.put _ (some 21) _ = _
          simp only [Act.put, List.setIfInBounds_toArray, List.set_cons_zero, List.set_cons_succ, i64_w, i32_w]
          rfl
        refine one_ (i := 3) (N := some 23) #[true, true, true, true, false, false] rfl rfl (by kernel_rfl) (by decide) (fun K hK => ?_)
        refine goes_ Try.func19 (by kernel_rfl) rfl #[.agg #[.slice _ l1_0.length c1_0, .slice _ l1_1.length c1_1]] (by rfl) rfl rfl (by (try simp only [List.map_toArray, List.map_cons, List.map_nil]); first | done | rfl | (simp only [List.length_drop, List.length_take]; rfl)) ?_
        with_reducible refine (laws_toRun.calls k _ _ l1_0 _ _ l1_1 t343 t346 _ ?side1 ?side2 ?side3 ?side4 A20.out).mono ?_
        (case side1 => exact sd HR1_0)
        (case side2 => exact HC1_0.out)
        (case side3 => exact sd HR1_1)
        (case side4 => exact HC1_1.out)
        rintro e w35 ⟨v344, v347, rfl, ho0, ho1, hb⟩
        refine ⟨_, rfl, ?_⟩
        have HO345 := Aside0.mk (Kd.R_lower (Kd.R_new' ho0 (Kd.R_lt (ra (h := HO339.out)))) (below_size bw))
        have HO348 := Aside0.mk (Kd.R_lower (Kd.R_new' ho1 (Kd.R_lt (ra (h := HO342.out)))) (below_size bw))
        replace HO339 := Aside0.mk (Kd.R_elder' (ra (h := HO339.out)) (Kd.R_base ho0) hb)
        replace HO342 := Aside0.mk (Kd.R_elder' (ra (h := HO342.out)) (Kd.R_base ho1) hb)
        replace BK333 := bb BK333 hb
        replace BK334 := bb BK334 hb
        replace HB := bs hb
        (try clear hb)
        (try clear hb2)
        (try clear hk)
        (try clear hi)
        (try clear ho0)
        (try clear ho1)
        obtain ⟨Ao36, co36, eo36⟩ := Kd.R_slice HO339.out
        (first | subst eo36 | (injection eo36 with f1_ f2_ f3_; have f4_ := f1_.symm; have f5_ := f3_.symm; clear f1_ f2_ f3_; subst f4_; subst f5_))
        obtain ⟨Ao37, co37, eo37⟩ := Kd.R_slice HO342.out
        (first | subst eo37 | (injection eo37 with f1_ f2_ f3_; have f4_ := f1_.symm; have f5_ := f3_.symm; clear f1_ f2_ f3_; subst f4_; subst f5_))
        obtain ⟨Ao38, co38, eo38⟩ := Kd.R_slice HO345.out
        (first | subst eo38 | (injection eo38 with f1_ f2_ f3_; have f4_ := f1_.symm; have f5_ := f3_.symm; clear f1_ f2_ f3_; subst f4_; subst f5_))
        obtain ⟨Ao39, co39, eo39⟩ := Kd.R_slice HO348.out
        (first | subst eo39 | (injection eo39 with f1_ f2_ f3_; have f4_ := f1_.symm; have f5_ := f3_.symm; clear f1_ f2_ f3_; subst f4_; subst f5_))
        refine hK.out _ _ ⟨(blk_cell BK333.out 0).trans rfl, (blk_cell BK333.out 1).trans rfl, (blk_cell BK334.out 0).trans rfl, (blk_cell BK334.out 1).trans rfl⟩ (fun hHeld => ?_)
        clear hK K
        refine norm_ (a' := ?_) ?_ ?_
        rotate_left
        · show Act.put _ (some 23) _ = _
          simp only [Act.put, List.setIfInBounds_toArray, List.set_cons_zero, List.set_cons_succ, i64_w, i32_w]
          rfl
        refine one_ (i := 4) (N := some 24) #[true, true, true, true, true, false] rfl rfl (by kernel_rfl) (by decide) (fun K hK => ?_)
        refine goes_ Try.func18 (by kernel_rfl) rfl #[.agg #[.slice _ t337.length co36, .slice _ t340.length co37], .agg #[.slice _ t343.length co38, .slice _ t346.length co39]] (by rfl) rfl rfl (by (try simp only [List.map_toArray, List.map_cons, List.map_nil]); first | done | rfl | (simp only [List.length_drop, List.length_take]; rfl)) ?_
        with_reducible refine (spec_SameRun.calls k _ _ t337 _ _ t340 _ _ t343 _ _ t346 t349 _ ?side1 ?side2 ?side3 ?side4 ?side5 ?side6 ?side7 ?side8 A21.out).mono ?_
        (case side1 => exact se HO339)
        (case side2 => exact (Kd.R_reads' HO339.out).2.1)
        (case side3 => exact se HO342)
        (case side4 => exact (Kd.R_reads' HO342.out).2.1)
        (case side5 => exact se HO345)
        (case side6 => exact (Kd.R_reads' HO345.out).2.1)
        (case side7 => exact se HO348)
        (case side8 => exact (Kd.R_reads' HO348.out).2.1)
        rintro e w40 ⟨rfl, hb⟩
        refine ⟨_, rfl, ?_⟩
        replace HO339 := Aside0.mk (Kd.R_below (ra (h := HO339.out)) hb)
        replace HO342 := Aside0.mk (Kd.R_below (ra (h := HO342.out)) hb)
        replace HO345 := Aside0.mk (Kd.R_below (ra (h := HO345.out)) hb)
        replace HO348 := Aside0.mk (Kd.R_below (ra (h := HO348.out)) hb)
        replace BK333 := bb BK333 hb
        replace BK334 := bb BK334 hb
        replace HB := bs hb
        (try clear hb)
        (try clear hb2)
        (try clear hk)
        (try clear hi)
        refine hK.out _ _ ⟨(blk_cell BK333.out 0).trans rfl, (blk_cell BK333.out 1).trans rfl, (blk_cell BK334.out 0).trans rfl, (blk_cell BK334.out 1).trans rfl⟩ (fun hHeld => ?_)
        clear hK K
        refine norm_ (a' := ?_) ?_ ?_
        rotate_left
        · show Act.put _ (some 24) _ = _
          simp only [Act.put, List.setIfInBounds_toArray, List.set_cons_zero, List.set_cons_succ, i64_w, i32_w]
          rfl
        refine pure_ (i := 5) (N := some 6) (v := ?_) (a' := ?_) #[true, true, true, true, true, true] rfl rfl (by kernel_rfl) (fun _ _ _ h => h) (Or.inl ⟨by rfl, ?_⟩) ?_ ?_
        rotate_left
        · intro w'
          go_simp
          with_reducible rfl
        rotate_left
        · simp only [Act.put, List.setIfInBounds_toArray, List.set_cons_zero, List.set_cons_succ, i64_w, i32_w]
          rfl
        refine done_ (by kernel_rfl) ?_
        obtain ⟨z41_0, z41_1, y41_0, y41_1⟩ := bq2 BK333
        try go_wp2_with (first | ((with_reducible refine gate_callee (f := 19) rfl ?_); refine gl (some 26) Try.func19 #[.agg #[.slice A0_0 l0_0.length c0_0, .slice A0_1 l0_1.length c0_1]] ?_; (with_reducible refine (laws_toRun.calls k _ _ l0_0 _ _ l0_1 t350 t353 _ ?side1 ?side2 ?side3 ?side4 A22.out).mono ?_); (case side1 => exact sd HR0_0); (case side2 => exact HC0_0.out); (case side3 => exact sd HR0_1); (case side4 => exact HC0_1.out); rintro e w42 ⟨v351, v354, rfl, ho0, ho1, hb⟩; refine ⟨_, rfl, ?_⟩; have HO352 := Aside0.mk (Kd.R_lower (Kd.R_new' (Kd.R_new' ho0 (Kd.R_lt (ra (h := HO339.out)))) (Kd.R_lt (ra (h := HO345.out)))) (below_size bw)); have HO355 := Aside0.mk (Kd.R_lower (Kd.R_new' (Kd.R_new' ho1 (Kd.R_lt (ra (h := HO342.out)))) (Kd.R_lt (ra (h := HO348.out)))) (below_size bw)); replace HO339 := Aside0.mk (Kd.R_elder' (ra (h := HO339.out)) (Kd.R_base ho0) hb); replace HO342 := Aside0.mk (Kd.R_elder' (ra (h := HO342.out)) (Kd.R_base ho1) hb); replace HO345 := Aside0.mk (Kd.R_elder' (ra (h := HO345.out)) (Kd.R_base ho0) hb); replace HO348 := Aside0.mk (Kd.R_elder' (ra (h := HO348.out)) (Kd.R_base ho1) hb); replace BK333 := bb BK333 hb; replace BK334 := bb BK334 hb; replace HB := bs hb; (try clear hb); (try clear hb2); (try clear hk); (try clear hi); (try clear ho0); (try clear ho1)) | ((with_reducible refine gate_dst (N := 7) rfl ?_); refine bx #[.slice none 0 0, .slice none 0 0] 43 ?_; intro gb356 hg w43 hbox hb; have BK356 := Aside0.mk hbox; have GW356 := bg hg; have GE356 := bg hg; have NB333_356 := bl BK333 hg; have NB356_333 := bv BK333 hg; have NB334_356 := bl BK334 hg; have NB356_334 := bv BK334 hg; replace HO339 := Aside0.mk (Kd.R_below (ra (h := HO339.out)) hb); replace HO342 := Aside0.mk (Kd.R_below (ra (h := HO342.out)) hb); replace HO345 := Aside0.mk (Kd.R_below (ra (h := HO345.out)) hb); replace HO348 := Aside0.mk (Kd.R_below (ra (h := HO348.out)) hb); replace HO352 := Aside0.mk (Kd.R_below (ra (h := HO352.out)) hb); replace HO355 := Aside0.mk (Kd.R_below (ra (h := HO355.out)) hb); replace BK333 := bb BK333 hb; replace BK334 := bb BK334 hb; replace HB := bs hb; clear hb hbox hg; obtain ⟨Ao44, co44, eo44⟩ := Kd.R_slice HO352.out; subst eo44; have hnb45 := NB356_333.out; have hnc45 := NB333_356.out; have hnb46 := NB356_334.out; have hnc46 := NB334_356.out; obtain ⟨z47_0, z47_1, y47_0, y47_1⟩ := bq2 BK356; obtain ⟨Ao48, co48, eo48⟩ := Kd.R_slice HO355.out; subst eo48; obtain ⟨z49_0, z49_1, y49_0, y49_1⟩ := bq2 BK334) | ((with_reducible refine gate_callee (f := 19) rfl ?_); refine gl (some 28) Try.func19 #[.agg #[.slice A1_0 l1_0.length c1_0, .slice A1_1 l1_1.length c1_1]] ?_; (with_reducible refine (laws_toRun.calls k _ _ l1_0 _ _ l1_1 t357 t360 _ ?side1 ?side2 ?side3 ?side4 A23.out).mono ?_); (case side1 => exact Kd.C_below HR1_0.out bw); (case side2 => exact HC1_0.out); (case side3 => exact Kd.C_below HR1_1.out bw); (case side4 => exact HC1_1.out); rintro e w50 ⟨v358, v361, rfl, ho0, ho1, hb⟩; refine ⟨_, rfl, ?_⟩; have HO359 := Aside0.mk (Kd.R_lower (Kd.R_new' (Kd.R_new' (Kd.R_new' ho0 (Kd.R_lt (by refine ra (h := ?_); exact (Kd.R_mono (Kd.R_far (p := ⟨gb356, 1, none⟩) (Kd.R_far (p := ⟨gb356, 0, none⟩) (Kd.R_types HO339.out BK356.out (by decide)) (fun _ hk => hk.2) (.slice Ao44 t350.length co44)) (fun _ hk => hk.2) (.slice Ao48 t353.length co48)) (fun _ h_ => h_.1))))) (Kd.R_lt (by refine ra (h := ?_); exact (Kd.R_mono (Kd.R_far (p := ⟨gb356, 1, none⟩) (Kd.R_far (p := ⟨gb356, 0, none⟩) (Kd.R_types HO345.out BK356.out (by decide)) (fun _ hk => hk.2) (.slice Ao44 t350.length co44)) (fun _ hk => hk.2) (.slice Ao48 t353.length co48)) (fun _ h_ => h_.1))))) (Kd.R_lt (by refine ra (h := ?_); exact (Kd.R_mono (Kd.R_far (p := ⟨gb356, 1, none⟩) (Kd.R_far (p := ⟨gb356, 0, none⟩) (Kd.R_types HO352.out BK356.out (by decide)) (fun _ hk => hk.2) (.slice Ao44 t350.length co44)) (fun _ hk => hk.2) (.slice Ao48 t353.length co48)) (fun _ h_ => h_.1))))) (below_size bw)); have HO362 := Aside0.mk (Kd.R_lower (Kd.R_new' (Kd.R_new' (Kd.R_new' ho1 (Kd.R_lt (by refine ra (h := ?_); exact (Kd.R_mono (Kd.R_far (p := ⟨gb356, 1, none⟩) (Kd.R_far (p := ⟨gb356, 0, none⟩) (Kd.R_types HO342.out BK356.out (by decide)) (fun _ hk => hk.2) (.slice Ao44 t350.length co44)) (fun _ hk => hk.2) (.slice Ao48 t353.length co48)) (fun _ h_ => h_.1))))) (Kd.R_lt (by refine ra (h := ?_); exact (Kd.R_mono (Kd.R_far (p := ⟨gb356, 1, none⟩) (Kd.R_far (p := ⟨gb356, 0, none⟩) (Kd.R_types HO348.out BK356.out (by decide)) (fun _ hk => hk.2) (.slice Ao44 t350.length co44)) (fun _ hk => hk.2) (.slice Ao48 t353.length co48)) (fun _ h_ => h_.1))))) (Kd.R_lt (by refine ra (h := ?_); exact (Kd.R_mono (Kd.R_far (p := ⟨gb356, 1, none⟩) (Kd.R_far (p := ⟨gb356, 0, none⟩) (Kd.R_types HO355.out BK356.out (by decide)) (fun _ hk => hk.2) (.slice Ao44 t350.length co44)) (fun _ hk => hk.2) (.slice Ao48 t353.length co48)) (fun _ h_ => h_.1))))) (below_size bw)); replace HO339 := Aside0.mk (Kd.R_elder' (by refine ra (h := ?_); exact (Kd.R_mono (Kd.R_far (p := ⟨gb356, 1, none⟩) (Kd.R_far (p := ⟨gb356, 0, none⟩) (Kd.R_types HO339.out BK356.out (by decide)) (fun _ hk => hk.2) (.slice Ao44 t350.length co44)) (fun _ hk => hk.2) (.slice Ao48 t353.length co48)) (fun _ h_ => h_.1))) (Kd.R_base ho0) hb); replace HO342 := Aside0.mk (Kd.R_elder' (by refine ra (h := ?_); exact (Kd.R_mono (Kd.R_far (p := ⟨gb356, 1, none⟩) (Kd.R_far (p := ⟨gb356, 0, none⟩) (Kd.R_types HO342.out BK356.out (by decide)) (fun _ hk => hk.2) (.slice Ao44 t350.length co44)) (fun _ hk => hk.2) (.slice Ao48 t353.length co48)) (fun _ h_ => h_.1))) (Kd.R_base ho1) hb); replace HO345 := Aside0.mk (Kd.R_elder' (by refine ra (h := ?_); exact (Kd.R_mono (Kd.R_far (p := ⟨gb356, 1, none⟩) (Kd.R_far (p := ⟨gb356, 0, none⟩) (Kd.R_types HO345.out BK356.out (by decide)) (fun _ hk => hk.2) (.slice Ao44 t350.length co44)) (fun _ hk => hk.2) (.slice Ao48 t353.length co48)) (fun _ h_ => h_.1))) (Kd.R_base ho0) hb); replace HO348 := Aside0.mk (Kd.R_elder' (by refine ra (h := ?_); exact (Kd.R_mono (Kd.R_far (p := ⟨gb356, 1, none⟩) (Kd.R_far (p := ⟨gb356, 0, none⟩) (Kd.R_types HO348.out BK356.out (by decide)) (fun _ hk => hk.2) (.slice Ao44 t350.length co44)) (fun _ hk => hk.2) (.slice Ao48 t353.length co48)) (fun _ h_ => h_.1))) (Kd.R_base ho1) hb); replace HO352 := Aside0.mk (Kd.R_elder' (by refine ra (h := ?_); exact (Kd.R_mono (Kd.R_far (p := ⟨gb356, 1, none⟩) (Kd.R_far (p := ⟨gb356, 0, none⟩) (Kd.R_types HO352.out BK356.out (by decide)) (fun _ hk => hk.2) (.slice Ao44 t350.length co44)) (fun _ hk => hk.2) (.slice Ao48 t353.length co48)) (fun _ h_ => h_.1))) (Kd.R_base ho0) hb); replace HO355 := Aside0.mk (Kd.R_elder' (by refine ra (h := ?_); exact (Kd.R_mono (Kd.R_far (p := ⟨gb356, 1, none⟩) (Kd.R_far (p := ⟨gb356, 0, none⟩) (Kd.R_types HO355.out BK356.out (by decide)) (fun _ hk => hk.2) (.slice Ao44 t350.length co44)) (fun _ hk => hk.2) (.slice Ao48 t353.length co48)) (fun _ h_ => h_.1))) (Kd.R_base ho1) hb); replace BK333 := Aside0.mk (blk_below (g := gb333) (o := .cells #[.slice A0_0 l0_0.length c0_0, .slice A0_1 l0_1.length c0_1] 37 (0, 0)) (by refine bk (h := ?_); refine blk_far ?_ NB333_356.out _; refine bk (h := ?_); refine blk_far ?_ NB333_356.out _; refine bk (h := ?_); exact BK333.out) hb); replace BK334 := Aside0.mk (blk_below (g := gb334) (o := .cells #[.slice A1_0 l1_0.length c1_0, .slice A1_1 l1_1.length c1_1] 37 (0, 0)) (by refine bk (h := ?_); refine blk_far ?_ NB334_356.out _; refine bk (h := ?_); refine blk_far ?_ NB334_356.out _; refine bk (h := ?_); exact BK334.out) hb); replace BK356 := Aside0.mk (blk_below (g := gb356) (o := .cells #[.slice Ao44 t350.length co44, .slice Ao48 t353.length co48] 43 (0, 0)) (by refine bk (h := ?_); refine blk_put (cs := #[.slice Ao44 t350.length co44, .slice none 0 0]) ?_ 1 _ rfl; refine bk (h := ?_); refine blk_put (cs := #[.slice none 0 0, .slice none 0 0]) ?_ 0 _ rfl; refine bk (h := ?_); exact BK356.out) hb); replace HB := bs hb; (try clear hb); (try clear hb2); (try clear hk); (try clear hi); (try clear ho0); (try clear ho1)) | ((with_reducible refine gate_dst (N := 8) rfl ?_); refine bx #[.slice none 0 0, .slice none 0 0] 43 ?_; intro gb363 hg w51 hbox hb; have BK363 := Aside0.mk hbox; have GW363 := bg hg; have GE363 := bg hg; have NB333_363 := bl BK333 hg; have NB363_333 := bv BK333 hg; have NB334_363 := bl BK334 hg; have NB363_334 := bv BK334 hg; have NB356_363 := bl BK356 hg; have NB363_356 := bv BK356 hg; replace HO339 := Aside0.mk (Kd.R_below (ra (h := HO339.out)) hb); replace HO342 := Aside0.mk (Kd.R_below (ra (h := HO342.out)) hb); replace HO345 := Aside0.mk (Kd.R_below (ra (h := HO345.out)) hb); replace HO348 := Aside0.mk (Kd.R_below (ra (h := HO348.out)) hb); replace HO352 := Aside0.mk (Kd.R_below (ra (h := HO352.out)) hb); replace HO355 := Aside0.mk (Kd.R_below (ra (h := HO355.out)) hb); replace HO359 := Aside0.mk (Kd.R_below (ra (h := HO359.out)) hb); replace HO362 := Aside0.mk (Kd.R_below (ra (h := HO362.out)) hb); replace BK333 := bb BK333 hb; replace BK334 := bb BK334 hb; replace BK356 := bb BK356 hb; replace HB := bs hb; clear hb hbox hg; obtain ⟨Ao52, co52, eo52⟩ := Kd.R_slice HO359.out; subst eo52; have hnb53 := NB363_333.out; have hnc53 := NB333_363.out; have hnb54 := NB363_334.out; have hnc54 := NB334_363.out; have hnb55 := NB363_356.out; have hnc55 := NB356_363.out; obtain ⟨z56_0, z56_1, y56_0, y56_1⟩ := bq2 BK363; obtain ⟨Ao57, co57, eo57⟩ := Kd.R_slice HO362.out; subst eo57; obtain ⟨z58_0, z58_1, y58_0, y58_1⟩ := bq2 BK356) | ((with_reducible refine gate_callee (f := 20) rfl ?_); refine gl (some 31) Try.func20 #[.agg #[.slice Ao44 t350.length co44, .slice Ao48 t353.length co48], .agg #[.slice Ao52 t357.length co52, .slice Ao57 t360.length co57]] ?_; (with_reducible refine (impl_SameRun.calls k _ _ t350 _ _ t353 _ _ t357 _ _ t360 t364 _ ?side1 ?side2 ?side3 ?side4 ?side5 ?side6 ?side7 ?side8 A24.out).mono ?_); (case side1 => refine (Kd.R_reads' (e := 65) (base := w.heap.size) (ok := fun k_ => (((True ∧ some k_ ≠ (.slice Ao36 t337.length co36 : Value).ownBlock) ∧ some k_ ≠ (.slice Ao38 t343.length co38 : Value).ownBlock) ∧ some k_ ≠ (.slice Ao52 t357.length co52 : Value).ownBlock)) (n := t350.length) (c := co44) ?_).2.2; exact (by refine ra (h := ?_); exact (Kd.R_mono (Kd.R_far (p := ⟨gb363, 1, none⟩) (Kd.R_far (p := ⟨gb363, 0, none⟩) (Kd.R_types HO352.out BK363.out (by decide)) (fun _ hk => hk.2) (.slice Ao52 t357.length co52)) (fun _ hk => hk.2) (.slice Ao57 t360.length co57)) (fun _ h_ => h_.1)))); (case side2 => exact (Kd.R_reads' HO352.out).2.1); (case side3 => refine (Kd.R_reads' (e := 98) (base := w.heap.size) (ok := fun k_ => (((True ∧ some k_ ≠ (.slice Ao37 t340.length co37 : Value).ownBlock) ∧ some k_ ≠ (.slice Ao39 t346.length co39 : Value).ownBlock) ∧ some k_ ≠ (.slice Ao57 t360.length co57 : Value).ownBlock)) (n := t353.length) (c := co48) ?_).2.2; exact (by refine ra (h := ?_); exact (Kd.R_mono (Kd.R_far (p := ⟨gb363, 1, none⟩) (Kd.R_far (p := ⟨gb363, 0, none⟩) (Kd.R_types HO355.out BK363.out (by decide)) (fun _ hk => hk.2) (.slice Ao52 t357.length co52)) (fun _ hk => hk.2) (.slice Ao57 t360.length co57)) (fun _ h_ => h_.1)))); (case side4 => exact (Kd.R_reads' HO355.out).2.1); (case side5 => refine (Kd.R_reads' (e := 65) (base := w.heap.size) (ok := fun k_ => (((True ∧ some k_ ≠ (.slice Ao36 t337.length co36 : Value).ownBlock) ∧ some k_ ≠ (.slice Ao38 t343.length co38 : Value).ownBlock) ∧ some k_ ≠ (.slice Ao44 t350.length co44 : Value).ownBlock)) (n := t357.length) (c := co52) ?_).2.2; exact (by refine ra (h := ?_); exact (Kd.R_mono (Kd.R_far (p := ⟨gb363, 1, none⟩) (Kd.R_far (p := ⟨gb363, 0, none⟩) (Kd.R_types HO359.out BK363.out (by decide)) (fun _ hk => hk.2) (.slice Ao52 t357.length co52)) (fun _ hk => hk.2) (.slice Ao57 t360.length co57)) (fun _ h_ => h_.1)))); (case side6 => exact (Kd.R_reads' HO359.out).2.1); (case side7 => refine (Kd.R_reads' (e := 98) (base := w.heap.size) (ok := fun k_ => (((True ∧ some k_ ≠ (.slice Ao37 t340.length co37 : Value).ownBlock) ∧ some k_ ≠ (.slice Ao39 t346.length co39 : Value).ownBlock) ∧ some k_ ≠ (.slice Ao48 t353.length co48 : Value).ownBlock)) (n := t360.length) (c := co57) ?_).2.2; exact (by refine ra (h := ?_); exact (Kd.R_mono (Kd.R_far (p := ⟨gb363, 1, none⟩) (Kd.R_far (p := ⟨gb363, 0, none⟩) (Kd.R_types HO362.out BK363.out (by decide)) (fun _ hk => hk.2) (.slice Ao52 t357.length co52)) (fun _ hk => hk.2) (.slice Ao57 t360.length co57)) (fun _ h_ => h_.1)))); (case side8 => exact (Kd.R_reads' HO362.out).2.1); rintro e w59 ⟨rfl, hb⟩; refine ⟨_, rfl, ?_⟩; replace HO339 := Aside0.mk (Kd.R_below (by refine ra (h := ?_); exact (Kd.R_mono (Kd.R_far (p := ⟨gb363, 1, none⟩) (Kd.R_far (p := ⟨gb363, 0, none⟩) (Kd.R_types HO339.out BK363.out (by decide)) (fun _ hk => hk.2) (.slice Ao52 t357.length co52)) (fun _ hk => hk.2) (.slice Ao57 t360.length co57)) (fun _ h_ => h_.1))) hb); replace HO342 := Aside0.mk (Kd.R_below (by refine ra (h := ?_); exact (Kd.R_mono (Kd.R_far (p := ⟨gb363, 1, none⟩) (Kd.R_far (p := ⟨gb363, 0, none⟩) (Kd.R_types HO342.out BK363.out (by decide)) (fun _ hk => hk.2) (.slice Ao52 t357.length co52)) (fun _ hk => hk.2) (.slice Ao57 t360.length co57)) (fun _ h_ => h_.1))) hb); replace HO345 := Aside0.mk (Kd.R_below (by refine ra (h := ?_); exact (Kd.R_mono (Kd.R_far (p := ⟨gb363, 1, none⟩) (Kd.R_far (p := ⟨gb363, 0, none⟩) (Kd.R_types HO345.out BK363.out (by decide)) (fun _ hk => hk.2) (.slice Ao52 t357.length co52)) (fun _ hk => hk.2) (.slice Ao57 t360.length co57)) (fun _ h_ => h_.1))) hb); replace HO348 := Aside0.mk (Kd.R_below (by refine ra (h := ?_); exact (Kd.R_mono (Kd.R_far (p := ⟨gb363, 1, none⟩) (Kd.R_far (p := ⟨gb363, 0, none⟩) (Kd.R_types HO348.out BK363.out (by decide)) (fun _ hk => hk.2) (.slice Ao52 t357.length co52)) (fun _ hk => hk.2) (.slice Ao57 t360.length co57)) (fun _ h_ => h_.1))) hb); replace HO352 := Aside0.mk (Kd.R_below (by refine ra (h := ?_); exact (Kd.R_mono (Kd.R_far (p := ⟨gb363, 1, none⟩) (Kd.R_far (p := ⟨gb363, 0, none⟩) (Kd.R_types HO352.out BK363.out (by decide)) (fun _ hk => hk.2) (.slice Ao52 t357.length co52)) (fun _ hk => hk.2) (.slice Ao57 t360.length co57)) (fun _ h_ => h_.1))) hb); replace HO355 := Aside0.mk (Kd.R_below (by refine ra (h := ?_); exact (Kd.R_mono (Kd.R_far (p := ⟨gb363, 1, none⟩) (Kd.R_far (p := ⟨gb363, 0, none⟩) (Kd.R_types HO355.out BK363.out (by decide)) (fun _ hk => hk.2) (.slice Ao52 t357.length co52)) (fun _ hk => hk.2) (.slice Ao57 t360.length co57)) (fun _ h_ => h_.1))) hb); replace HO359 := Aside0.mk (Kd.R_below (by refine ra (h := ?_); exact (Kd.R_mono (Kd.R_far (p := ⟨gb363, 1, none⟩) (Kd.R_far (p := ⟨gb363, 0, none⟩) (Kd.R_types HO359.out BK363.out (by decide)) (fun _ hk => hk.2) (.slice Ao52 t357.length co52)) (fun _ hk => hk.2) (.slice Ao57 t360.length co57)) (fun _ h_ => h_.1))) hb); replace HO362 := Aside0.mk (Kd.R_below (by refine ra (h := ?_); exact (Kd.R_mono (Kd.R_far (p := ⟨gb363, 1, none⟩) (Kd.R_far (p := ⟨gb363, 0, none⟩) (Kd.R_types HO362.out BK363.out (by decide)) (fun _ hk => hk.2) (.slice Ao52 t357.length co52)) (fun _ hk => hk.2) (.slice Ao57 t360.length co57)) (fun _ h_ => h_.1))) hb); replace BK333 := Aside0.mk (blk_below (g := gb333) (o := .cells #[.slice A0_0 l0_0.length c0_0, .slice A0_1 l0_1.length c0_1] 37 (0, 0)) (by refine bk (h := ?_); refine blk_far ?_ NB333_363.out _; refine bk (h := ?_); refine blk_far ?_ NB333_363.out _; refine bk (h := ?_); exact BK333.out) hb); replace BK334 := Aside0.mk (blk_below (g := gb334) (o := .cells #[.slice A1_0 l1_0.length c1_0, .slice A1_1 l1_1.length c1_1] 37 (0, 0)) (by refine bk (h := ?_); refine blk_far ?_ NB334_363.out _; refine bk (h := ?_); refine blk_far ?_ NB334_363.out _; refine bk (h := ?_); exact BK334.out) hb); replace BK356 := Aside0.mk (blk_below (g := gb356) (o := .cells #[.slice Ao44 t350.length co44, .slice Ao48 t353.length co48] 43 (0, 0)) (by refine bk (h := ?_); refine blk_far ?_ NB356_363.out _; refine bk (h := ?_); refine blk_far ?_ NB356_363.out _; refine bk (h := ?_); exact BK356.out) hb); replace BK363 := Aside0.mk (blk_below (g := gb363) (o := .cells #[.slice Ao52 t357.length co52, .slice Ao57 t360.length co57] 43 (0, 0)) (by refine bk (h := ?_); refine blk_put (cs := #[.slice Ao52 t357.length co52, .slice none 0 0]) ?_ 1 _ rfl; refine bk (h := ?_); refine blk_put (cs := #[.slice none 0 0, .slice none 0 0]) ?_ 0 _ rfl; refine bk (h := ?_); exact BK363.out) hb); replace HB := bs hb; (try clear hb); (try clear hb2); (try clear hk); (try clear hi)))
        go_ret
        exact ⟨er, bw⟩
      · rw [if_neg c25] at H
        have c25b0 : (t364 != t349) = false := by simpa using c25
        (try (have c25b1 : decide (t364 = t349) = true := by simpa using c25))
        (try (have c25b2 : (t364 == t349) = true := by simpa using c25))
        clear c25
        replace H := Option.bind_eq_some_iff.mp H
        obtain ⟨⟨t365, t368⟩, A600, H⟩ := H
        replace H : ((laws_eqRun.f k t350 t353 t365 t368).bind fun t371 => (if t371 = true then ((laws_toRun.f k l1_0 l1_1).bind fun bt372 => ((laws_eqRun.f k t357 t360 bt372.1 bt372.2).bind fun t378 => (if t378 = true then (some true) else (some false)))) else (some false))) = some r := H
        have A60 := Aside0.mk A600
        clear A600
        replace H := Option.bind_eq_some_iff.mp H
        obtain ⟨t371, A610, H⟩ := H
        replace H : (if t371 = true then ((laws_toRun.f k l1_0 l1_1).bind fun bt372 => ((laws_eqRun.f k t357 t360 bt372.1 bt372.2).bind fun t378 => (if t378 = true then (some true) else (some false)))) else (some false)) = some r := H
        have A61 := Aside0.mk A610
        clear A610
        by_cases c62 : t371 = true
        · subst c62
          rw [if_pos rfl] at H
          replace H := Option.bind_eq_some_iff.mp H
          obtain ⟨⟨t372, t375⟩, A630, H⟩ := H
          replace H : ((laws_eqRun.f k t357 t360 t372 t375).bind fun t378 => (if t378 = true then (some true) else (some false))) = some r := H
          have A63 := Aside0.mk A630
          clear A630
          replace H := Option.bind_eq_some_iff.mp H
          obtain ⟨t378, A640, H⟩ := H
          replace H : (if t378 = true then (some true) else (some false)) = some r := H
          have A64 := Aside0.mk A640
          clear A640
          by_cases c65 : t378 = true
          · subst c65
            rw [if_pos rfl] at H
            obtain rfl := Option.some.inj H
            go_enter Try.func4, Try.ntmps4
            try go_wp2_with (first | ((with_reducible refine gate_dst (N := 2) rfl ?_); refine bx #[.slice A0_0 l0_0.length c0_0, .slice A0_1 l0_1.length c0_1] 37 ?_; intro gb333 hg w66 hbox hb; have BK333 := Aside0.mk hbox; have GW333 := bg hg; have GE333 := bg hg; replace HB := bs hb; clear hb hbox hg) | ((with_reducible refine gate_dst (N := 3) rfl ?_); refine bx #[.slice A1_0 l1_0.length c1_0, .slice A1_1 l1_1.length c1_1] 37 ?_; intro gb334 hg w67 hbox hb; have BK334 := Aside0.mk hbox; have GW334 := bg hg; have GE334 := bg hg; have NB333_334 := bl BK333 hg; have NB334_333 := bv BK333 hg; replace BK333 := bb BK333 hb; replace HB := bs hb; clear hb hbox hg; have hnb68 := NB333_334.out; have hnc68 := NB334_333.out; obtain ⟨z69_0, z69_1, y69_0, y69_1⟩ := bq2 BK333) | ((with_reducible refine gate_callee (f := 17) rfl ?_); refine gl (some 12) Try.func17 #[.agg #[.slice A0_0 l0_0.length c0_0, .slice A0_1 l0_1.length c0_1], .int .i64 1048576] ?_; (with_reducible refine (laws_szRun.calls k _ _ l0_0 _ _ l0_1 1048576 t335 _ ?side1 ?side2 ?side3 ?side4 A3.out).mono ?_); (case side1 => exact sd HR0_0); (case side2 => exact HC0_0.out); (case side3 => exact sd HR0_1); (case side4 => exact HC0_1.out); rintro e w70 ⟨rfl, hb⟩; refine ⟨_, rfl, ?_⟩; replace BK333 := bb BK333 hb; replace BK334 := bb BK334 hb; replace HB := bs hb; (try clear hb); (try clear hb2); (try clear hk); (try clear hi); obtain ⟨z71_0, z71_1, y71_0, y71_1⟩ := bq2 BK334) | ((with_reducible refine gate_callee (f := 17) rfl ?_); refine gl (some 17) Try.func17 #[.agg #[.slice A1_0 l1_0.length c1_0, .slice A1_1 l1_1.length c1_1], .int .i64 t335] ?_; (with_reducible refine (laws_szRun.calls k _ _ l1_0 _ _ l1_1 t335 t336 _ ?side1 ?side2 ?side3 ?side4 A10.out).mono ?_); (case side1 => exact sd HR1_0); (case side2 => exact HC1_0.out); (case side3 => exact sd HR1_1); (case side4 => exact HC1_1.out); rintro e w72 ⟨rfl, hb⟩; refine ⟨_, rfl, ?_⟩; replace BK333 := bb BK333 hb; replace BK334 := bb BK334 hb; replace HB := bs hb; (try clear hb); (try clear hb2); (try clear hk); (try clear hi)))
            replace BK333 := Aside0.mk (blk_drew BK333.out)
            replace BK334 := Aside0.mk (blk_drew BK334.out)
            replace HB := Aside0.mk (below_drew1 HB.out)
            refine start_ (n := 6) (S := fun w' => w'.cell? ⟨gb333, 0, none⟩ = some (.slice A0_0 l0_0.length c0_0) ∧ w'.cell? ⟨gb333, 1, none⟩ = some (.slice A0_1 l0_1.length c0_1) ∧ w'.cell? ⟨gb334, 0, none⟩ = some (.slice A1_0 l1_0.length c1_0) ∧ w'.cell? ⟨gb334, 1, none⟩ = some (.slice A1_1 l1_1.length c1_1)) (ds := []) #[false, false, false, false, false, false] (by kernel_rfl) rfl rfl ⟨(blk_cell BK333.out 0).trans rfl, (blk_cell BK333.out 1).trans rfl, (blk_cell BK334.out 0).trans rfl, (blk_cell BK334.out 1).trans rfl⟩ (fun hHeld => ?_)
            generalize w72.drew = w73 at BK333 BK334 HB hHeld ⊢
            refine take_ (i := 0) (N := some 20) (v := ?_) (a' := ?_) #[true, false, false, false, false, false] rfl rfl (by kernel_rfl) (fun _ _ _ h => h) (Or.inl ⟨by rfl, ?_⟩) hHeld ?_ ?_
            rotate_left
            · rintro w' ⟨s0, s1, s2, s3⟩
              go_simp
              with_reducible rfl
            rotate_left
            · simp only [Act.put, List.setIfInBounds_toArray, List.set_cons_zero, List.set_cons_succ, i64_w, i32_w]
              rfl
            refine take_ (i := 2) (N := some 22) (v := ?_) (a' := ?_) #[true, false, true, false, false, false] rfl rfl (by kernel_rfl) (fun _ _ _ h => h) (Or.inl ⟨by rfl, ?_⟩) hHeld ?_ ?_
            rotate_left
            · rintro w' ⟨s0, s1, s2, s3⟩
              go_simp
              with_reducible rfl
            rotate_left
            · simp only [Act.put, List.setIfInBounds_toArray, List.set_cons_zero, List.set_cons_succ, i64_w, i32_w]
              rfl
            refine one_ (i := 1) (N := some 21) #[true, true, true, false, false, false] rfl rfl (by kernel_rfl) (by decide) (fun K hK => ?_)
            refine goes_ Try.func19 (by kernel_rfl) rfl #[.agg #[.slice _ l0_0.length c0_0, .slice _ l0_1.length c0_1]] (by rfl) rfl rfl (by (try simp only [List.map_toArray, List.map_cons, List.map_nil]); first | done | rfl | (simp only [List.length_drop, List.length_take]; rfl)) ?_
            with_reducible refine (laws_toRun.calls k _ _ l0_0 _ _ l0_1 t337 t340 _ ?side1 ?side2 ?side3 ?side4 A19.out).mono ?_
            (case side1 => exact sd HR0_0)
            (case side2 => exact HC0_0.out)
            (case side3 => exact sd HR0_1)
            (case side4 => exact HC0_1.out)
            rintro e w74 ⟨v338, v341, rfl, ho0, ho1, hb⟩
            refine ⟨_, rfl, ?_⟩
            have HO339 := Aside0.mk (Kd.R_lower ho0 (below_size bw))
            have HO342 := Aside0.mk (Kd.R_lower ho1 (below_size bw))
            replace BK333 := bb BK333 hb
            replace BK334 := bb BK334 hb
            replace HB := bs hb
            (try clear hb)
            (try clear hb2)
            (try clear hk)
            (try clear hi)
            (try clear ho0)
            (try clear ho1)
            refine hK.out _ _ ⟨(blk_cell BK333.out 0).trans rfl, (blk_cell BK333.out 1).trans rfl, (blk_cell BK334.out 0).trans rfl, (blk_cell BK334.out 1).trans rfl⟩ (fun hHeld => ?_)
            clear hK K
            refine norm_ (a' := ?_) ?_ ?_
            rotate_left
            · show Act.put _ (some 21) _ = _
              simp only [Act.put, List.setIfInBounds_toArray, List.set_cons_zero, List.set_cons_succ, i64_w, i32_w]
              rfl
            refine one_ (i := 3) (N := some 23) #[true, true, true, true, false, false] rfl rfl (by kernel_rfl) (by decide) (fun K hK => ?_)
            refine goes_ Try.func19 (by kernel_rfl) rfl #[.agg #[.slice _ l1_0.length c1_0, .slice _ l1_1.length c1_1]] (by rfl) rfl rfl (by (try simp only [List.map_toArray, List.map_cons, List.map_nil]); first | done | rfl | (simp only [List.length_drop, List.length_take]; rfl)) ?_
            with_reducible refine (laws_toRun.calls k _ _ l1_0 _ _ l1_1 t343 t346 _ ?side1 ?side2 ?side3 ?side4 A20.out).mono ?_
            (case side1 => exact sd HR1_0)
            (case side2 => exact HC1_0.out)
            (case side3 => exact sd HR1_1)
            (case side4 => exact HC1_1.out)
            rintro e w75 ⟨v344, v347, rfl, ho0, ho1, hb⟩
            refine ⟨_, rfl, ?_⟩
            have HO345 := Aside0.mk (Kd.R_lower (Kd.R_new' ho0 (Kd.R_lt (ra (h := HO339.out)))) (below_size bw))
            have HO348 := Aside0.mk (Kd.R_lower (Kd.R_new' ho1 (Kd.R_lt (ra (h := HO342.out)))) (below_size bw))
            replace HO339 := Aside0.mk (Kd.R_elder' (ra (h := HO339.out)) (Kd.R_base ho0) hb)
            replace HO342 := Aside0.mk (Kd.R_elder' (ra (h := HO342.out)) (Kd.R_base ho1) hb)
            replace BK333 := bb BK333 hb
            replace BK334 := bb BK334 hb
            replace HB := bs hb
            (try clear hb)
            (try clear hb2)
            (try clear hk)
            (try clear hi)
            (try clear ho0)
            (try clear ho1)
            obtain ⟨Ao76, co76, eo76⟩ := Kd.R_slice HO339.out
            (first | subst eo76 | (injection eo76 with f1_ f2_ f3_; have f4_ := f1_.symm; have f5_ := f3_.symm; clear f1_ f2_ f3_; subst f4_; subst f5_))
            obtain ⟨Ao77, co77, eo77⟩ := Kd.R_slice HO342.out
            (first | subst eo77 | (injection eo77 with f1_ f2_ f3_; have f4_ := f1_.symm; have f5_ := f3_.symm; clear f1_ f2_ f3_; subst f4_; subst f5_))
            obtain ⟨Ao78, co78, eo78⟩ := Kd.R_slice HO345.out
            (first | subst eo78 | (injection eo78 with f1_ f2_ f3_; have f4_ := f1_.symm; have f5_ := f3_.symm; clear f1_ f2_ f3_; subst f4_; subst f5_))
            obtain ⟨Ao79, co79, eo79⟩ := Kd.R_slice HO348.out
            (first | subst eo79 | (injection eo79 with f1_ f2_ f3_; have f4_ := f1_.symm; have f5_ := f3_.symm; clear f1_ f2_ f3_; subst f4_; subst f5_))
            refine hK.out _ _ ⟨(blk_cell BK333.out 0).trans rfl, (blk_cell BK333.out 1).trans rfl, (blk_cell BK334.out 0).trans rfl, (blk_cell BK334.out 1).trans rfl⟩ (fun hHeld => ?_)
            clear hK K
            refine norm_ (a' := ?_) ?_ ?_
            rotate_left
            · show Act.put _ (some 23) _ = _
              simp only [Act.put, List.setIfInBounds_toArray, List.set_cons_zero, List.set_cons_succ, i64_w, i32_w]
              rfl
            refine one_ (i := 4) (N := some 24) #[true, true, true, true, true, false] rfl rfl (by kernel_rfl) (by decide) (fun K hK => ?_)
            refine goes_ Try.func18 (by kernel_rfl) rfl #[.agg #[.slice _ t337.length co76, .slice _ t340.length co77], .agg #[.slice _ t343.length co78, .slice _ t346.length co79]] (by rfl) rfl rfl (by (try simp only [List.map_toArray, List.map_cons, List.map_nil]); first | done | rfl | (simp only [List.length_drop, List.length_take]; rfl)) ?_
            with_reducible refine (spec_SameRun.calls k _ _ t337 _ _ t340 _ _ t343 _ _ t346 t349 _ ?side1 ?side2 ?side3 ?side4 ?side5 ?side6 ?side7 ?side8 A21.out).mono ?_
            (case side1 => exact se HO339)
            (case side2 => exact (Kd.R_reads' HO339.out).2.1)
            (case side3 => exact se HO342)
            (case side4 => exact (Kd.R_reads' HO342.out).2.1)
            (case side5 => exact se HO345)
            (case side6 => exact (Kd.R_reads' HO345.out).2.1)
            (case side7 => exact se HO348)
            (case side8 => exact (Kd.R_reads' HO348.out).2.1)
            rintro e w80 ⟨rfl, hb⟩
            refine ⟨_, rfl, ?_⟩
            replace HO339 := Aside0.mk (Kd.R_below (ra (h := HO339.out)) hb)
            replace HO342 := Aside0.mk (Kd.R_below (ra (h := HO342.out)) hb)
            replace HO345 := Aside0.mk (Kd.R_below (ra (h := HO345.out)) hb)
            replace HO348 := Aside0.mk (Kd.R_below (ra (h := HO348.out)) hb)
            replace BK333 := bb BK333 hb
            replace BK334 := bb BK334 hb
            replace HB := bs hb
            (try clear hb)
            (try clear hb2)
            (try clear hk)
            (try clear hi)
            refine hK.out _ _ ⟨(blk_cell BK333.out 0).trans rfl, (blk_cell BK333.out 1).trans rfl, (blk_cell BK334.out 0).trans rfl, (blk_cell BK334.out 1).trans rfl⟩ (fun hHeld => ?_)
            clear hK K
            refine norm_ (a' := ?_) ?_ ?_
            rotate_left
            · show Act.put _ (some 24) _ = _
              simp only [Act.put, List.setIfInBounds_toArray, List.set_cons_zero, List.set_cons_succ, i64_w, i32_w]
              rfl
            refine pure_ (i := 5) (N := some 6) (v := ?_) (a' := ?_) #[true, true, true, true, true, true] rfl rfl (by kernel_rfl) (fun _ _ _ h => h) (Or.inl ⟨by rfl, ?_⟩) ?_ ?_
            rotate_left
            · intro w'
              go_simp
              with_reducible rfl
            rotate_left
            · simp only [Act.put, List.setIfInBounds_toArray, List.set_cons_zero, List.set_cons_succ, i64_w, i32_w]
              rfl
            refine done_ (by kernel_rfl) ?_
            obtain ⟨z81_0, z81_1, y81_0, y81_1⟩ := bq2 BK333
            try go_wp2_with (first | ((with_reducible refine gate_callee (f := 19) rfl ?_); refine gl (some 26) Try.func19 #[.agg #[.slice A0_0 l0_0.length c0_0, .slice A0_1 l0_1.length c0_1]] ?_; (with_reducible refine (laws_toRun.calls k _ _ l0_0 _ _ l0_1 t350 t353 _ ?side1 ?side2 ?side3 ?side4 A22.out).mono ?_); (case side1 => exact sd HR0_0); (case side2 => exact HC0_0.out); (case side3 => exact sd HR0_1); (case side4 => exact HC0_1.out); rintro e w82 ⟨v351, v354, rfl, ho0, ho1, hb⟩; refine ⟨_, rfl, ?_⟩; have HO352 := Aside0.mk (Kd.R_lower (Kd.R_new' (Kd.R_new' ho0 (Kd.R_lt (ra (h := HO339.out)))) (Kd.R_lt (ra (h := HO345.out)))) (below_size bw)); have HO355 := Aside0.mk (Kd.R_lower (Kd.R_new' (Kd.R_new' ho1 (Kd.R_lt (ra (h := HO342.out)))) (Kd.R_lt (ra (h := HO348.out)))) (below_size bw)); replace HO339 := Aside0.mk (Kd.R_elder' (ra (h := HO339.out)) (Kd.R_base ho0) hb); replace HO342 := Aside0.mk (Kd.R_elder' (ra (h := HO342.out)) (Kd.R_base ho1) hb); replace HO345 := Aside0.mk (Kd.R_elder' (ra (h := HO345.out)) (Kd.R_base ho0) hb); replace HO348 := Aside0.mk (Kd.R_elder' (ra (h := HO348.out)) (Kd.R_base ho1) hb); replace BK333 := bb BK333 hb; replace BK334 := bb BK334 hb; replace HB := bs hb; (try clear hb); (try clear hb2); (try clear hk); (try clear hi); (try clear ho0); (try clear ho1)) | ((with_reducible refine gate_dst (N := 7) rfl ?_); refine bx #[.slice none 0 0, .slice none 0 0] 43 ?_; intro gb356 hg w83 hbox hb; have BK356 := Aside0.mk hbox; have GW356 := bg hg; have GE356 := bg hg; have NB333_356 := bl BK333 hg; have NB356_333 := bv BK333 hg; have NB334_356 := bl BK334 hg; have NB356_334 := bv BK334 hg; replace HO339 := Aside0.mk (Kd.R_below (ra (h := HO339.out)) hb); replace HO342 := Aside0.mk (Kd.R_below (ra (h := HO342.out)) hb); replace HO345 := Aside0.mk (Kd.R_below (ra (h := HO345.out)) hb); replace HO348 := Aside0.mk (Kd.R_below (ra (h := HO348.out)) hb); replace HO352 := Aside0.mk (Kd.R_below (ra (h := HO352.out)) hb); replace HO355 := Aside0.mk (Kd.R_below (ra (h := HO355.out)) hb); replace BK333 := bb BK333 hb; replace BK334 := bb BK334 hb; replace HB := bs hb; clear hb hbox hg; obtain ⟨Ao84, co84, eo84⟩ := Kd.R_slice HO352.out; subst eo84; have hnb85 := NB356_333.out; have hnc85 := NB333_356.out; have hnb86 := NB356_334.out; have hnc86 := NB334_356.out; obtain ⟨z87_0, z87_1, y87_0, y87_1⟩ := bq2 BK356; obtain ⟨Ao88, co88, eo88⟩ := Kd.R_slice HO355.out; subst eo88; obtain ⟨z89_0, z89_1, y89_0, y89_1⟩ := bq2 BK334) | ((with_reducible refine gate_callee (f := 19) rfl ?_); refine gl (some 28) Try.func19 #[.agg #[.slice A1_0 l1_0.length c1_0, .slice A1_1 l1_1.length c1_1]] ?_; (with_reducible refine (laws_toRun.calls k _ _ l1_0 _ _ l1_1 t357 t360 _ ?side1 ?side2 ?side3 ?side4 A23.out).mono ?_); (case side1 => exact Kd.C_below HR1_0.out bw); (case side2 => exact HC1_0.out); (case side3 => exact Kd.C_below HR1_1.out bw); (case side4 => exact HC1_1.out); rintro e w90 ⟨v358, v361, rfl, ho0, ho1, hb⟩; refine ⟨_, rfl, ?_⟩; have HO359 := Aside0.mk (Kd.R_lower (Kd.R_new' (Kd.R_new' (Kd.R_new' ho0 (Kd.R_lt (by refine ra (h := ?_); exact (Kd.R_mono (Kd.R_far (p := ⟨gb356, 1, none⟩) (Kd.R_far (p := ⟨gb356, 0, none⟩) (Kd.R_types HO339.out BK356.out (by decide)) (fun _ hk => hk.2) (.slice Ao84 t350.length co84)) (fun _ hk => hk.2) (.slice Ao88 t353.length co88)) (fun _ h_ => h_.1))))) (Kd.R_lt (by refine ra (h := ?_); exact (Kd.R_mono (Kd.R_far (p := ⟨gb356, 1, none⟩) (Kd.R_far (p := ⟨gb356, 0, none⟩) (Kd.R_types HO345.out BK356.out (by decide)) (fun _ hk => hk.2) (.slice Ao84 t350.length co84)) (fun _ hk => hk.2) (.slice Ao88 t353.length co88)) (fun _ h_ => h_.1))))) (Kd.R_lt (by refine ra (h := ?_); exact (Kd.R_mono (Kd.R_far (p := ⟨gb356, 1, none⟩) (Kd.R_far (p := ⟨gb356, 0, none⟩) (Kd.R_types HO352.out BK356.out (by decide)) (fun _ hk => hk.2) (.slice Ao84 t350.length co84)) (fun _ hk => hk.2) (.slice Ao88 t353.length co88)) (fun _ h_ => h_.1))))) (below_size bw)); have HO362 := Aside0.mk (Kd.R_lower (Kd.R_new' (Kd.R_new' (Kd.R_new' ho1 (Kd.R_lt (by refine ra (h := ?_); exact (Kd.R_mono (Kd.R_far (p := ⟨gb356, 1, none⟩) (Kd.R_far (p := ⟨gb356, 0, none⟩) (Kd.R_types HO342.out BK356.out (by decide)) (fun _ hk => hk.2) (.slice Ao84 t350.length co84)) (fun _ hk => hk.2) (.slice Ao88 t353.length co88)) (fun _ h_ => h_.1))))) (Kd.R_lt (by refine ra (h := ?_); exact (Kd.R_mono (Kd.R_far (p := ⟨gb356, 1, none⟩) (Kd.R_far (p := ⟨gb356, 0, none⟩) (Kd.R_types HO348.out BK356.out (by decide)) (fun _ hk => hk.2) (.slice Ao84 t350.length co84)) (fun _ hk => hk.2) (.slice Ao88 t353.length co88)) (fun _ h_ => h_.1))))) (Kd.R_lt (by refine ra (h := ?_); exact (Kd.R_mono (Kd.R_far (p := ⟨gb356, 1, none⟩) (Kd.R_far (p := ⟨gb356, 0, none⟩) (Kd.R_types HO355.out BK356.out (by decide)) (fun _ hk => hk.2) (.slice Ao84 t350.length co84)) (fun _ hk => hk.2) (.slice Ao88 t353.length co88)) (fun _ h_ => h_.1))))) (below_size bw)); replace HO339 := Aside0.mk (Kd.R_elder' (by refine ra (h := ?_); exact (Kd.R_mono (Kd.R_far (p := ⟨gb356, 1, none⟩) (Kd.R_far (p := ⟨gb356, 0, none⟩) (Kd.R_types HO339.out BK356.out (by decide)) (fun _ hk => hk.2) (.slice Ao84 t350.length co84)) (fun _ hk => hk.2) (.slice Ao88 t353.length co88)) (fun _ h_ => h_.1))) (Kd.R_base ho0) hb); replace HO342 := Aside0.mk (Kd.R_elder' (by refine ra (h := ?_); exact (Kd.R_mono (Kd.R_far (p := ⟨gb356, 1, none⟩) (Kd.R_far (p := ⟨gb356, 0, none⟩) (Kd.R_types HO342.out BK356.out (by decide)) (fun _ hk => hk.2) (.slice Ao84 t350.length co84)) (fun _ hk => hk.2) (.slice Ao88 t353.length co88)) (fun _ h_ => h_.1))) (Kd.R_base ho1) hb); replace HO345 := Aside0.mk (Kd.R_elder' (by refine ra (h := ?_); exact (Kd.R_mono (Kd.R_far (p := ⟨gb356, 1, none⟩) (Kd.R_far (p := ⟨gb356, 0, none⟩) (Kd.R_types HO345.out BK356.out (by decide)) (fun _ hk => hk.2) (.slice Ao84 t350.length co84)) (fun _ hk => hk.2) (.slice Ao88 t353.length co88)) (fun _ h_ => h_.1))) (Kd.R_base ho0) hb); replace HO348 := Aside0.mk (Kd.R_elder' (by refine ra (h := ?_); exact (Kd.R_mono (Kd.R_far (p := ⟨gb356, 1, none⟩) (Kd.R_far (p := ⟨gb356, 0, none⟩) (Kd.R_types HO348.out BK356.out (by decide)) (fun _ hk => hk.2) (.slice Ao84 t350.length co84)) (fun _ hk => hk.2) (.slice Ao88 t353.length co88)) (fun _ h_ => h_.1))) (Kd.R_base ho1) hb); replace HO352 := Aside0.mk (Kd.R_elder' (by refine ra (h := ?_); exact (Kd.R_mono (Kd.R_far (p := ⟨gb356, 1, none⟩) (Kd.R_far (p := ⟨gb356, 0, none⟩) (Kd.R_types HO352.out BK356.out (by decide)) (fun _ hk => hk.2) (.slice Ao84 t350.length co84)) (fun _ hk => hk.2) (.slice Ao88 t353.length co88)) (fun _ h_ => h_.1))) (Kd.R_base ho0) hb); replace HO355 := Aside0.mk (Kd.R_elder' (by refine ra (h := ?_); exact (Kd.R_mono (Kd.R_far (p := ⟨gb356, 1, none⟩) (Kd.R_far (p := ⟨gb356, 0, none⟩) (Kd.R_types HO355.out BK356.out (by decide)) (fun _ hk => hk.2) (.slice Ao84 t350.length co84)) (fun _ hk => hk.2) (.slice Ao88 t353.length co88)) (fun _ h_ => h_.1))) (Kd.R_base ho1) hb); replace BK333 := Aside0.mk (blk_below (g := gb333) (o := .cells #[.slice A0_0 l0_0.length c0_0, .slice A0_1 l0_1.length c0_1] 37 (0, 0)) (by refine bk (h := ?_); refine blk_far ?_ NB333_356.out _; refine bk (h := ?_); refine blk_far ?_ NB333_356.out _; refine bk (h := ?_); exact BK333.out) hb); replace BK334 := Aside0.mk (blk_below (g := gb334) (o := .cells #[.slice A1_0 l1_0.length c1_0, .slice A1_1 l1_1.length c1_1] 37 (0, 0)) (by refine bk (h := ?_); refine blk_far ?_ NB334_356.out _; refine bk (h := ?_); refine blk_far ?_ NB334_356.out _; refine bk (h := ?_); exact BK334.out) hb); replace BK356 := Aside0.mk (blk_below (g := gb356) (o := .cells #[.slice Ao84 t350.length co84, .slice Ao88 t353.length co88] 43 (0, 0)) (by refine bk (h := ?_); refine blk_put (cs := #[.slice Ao84 t350.length co84, .slice none 0 0]) ?_ 1 _ rfl; refine bk (h := ?_); refine blk_put (cs := #[.slice none 0 0, .slice none 0 0]) ?_ 0 _ rfl; refine bk (h := ?_); exact BK356.out) hb); replace HB := bs hb; (try clear hb); (try clear hb2); (try clear hk); (try clear hi); (try clear ho0); (try clear ho1)) | ((with_reducible refine gate_dst (N := 8) rfl ?_); refine bx #[.slice none 0 0, .slice none 0 0] 43 ?_; intro gb363 hg w91 hbox hb; have BK363 := Aside0.mk hbox; have GW363 := bg hg; have GE363 := bg hg; have NB333_363 := bl BK333 hg; have NB363_333 := bv BK333 hg; have NB334_363 := bl BK334 hg; have NB363_334 := bv BK334 hg; have NB356_363 := bl BK356 hg; have NB363_356 := bv BK356 hg; replace HO339 := Aside0.mk (Kd.R_below (ra (h := HO339.out)) hb); replace HO342 := Aside0.mk (Kd.R_below (ra (h := HO342.out)) hb); replace HO345 := Aside0.mk (Kd.R_below (ra (h := HO345.out)) hb); replace HO348 := Aside0.mk (Kd.R_below (ra (h := HO348.out)) hb); replace HO352 := Aside0.mk (Kd.R_below (ra (h := HO352.out)) hb); replace HO355 := Aside0.mk (Kd.R_below (ra (h := HO355.out)) hb); replace HO359 := Aside0.mk (Kd.R_below (ra (h := HO359.out)) hb); replace HO362 := Aside0.mk (Kd.R_below (ra (h := HO362.out)) hb); replace BK333 := bb BK333 hb; replace BK334 := bb BK334 hb; replace BK356 := bb BK356 hb; replace HB := bs hb; clear hb hbox hg; obtain ⟨Ao92, co92, eo92⟩ := Kd.R_slice HO359.out; subst eo92; have hnb93 := NB363_333.out; have hnc93 := NB333_363.out; have hnb94 := NB363_334.out; have hnc94 := NB334_363.out; have hnb95 := NB363_356.out; have hnc95 := NB356_363.out; obtain ⟨z96_0, z96_1, y96_0, y96_1⟩ := bq2 BK363; obtain ⟨Ao97, co97, eo97⟩ := Kd.R_slice HO362.out; subst eo97; obtain ⟨z98_0, z98_1, y98_0, y98_1⟩ := bq2 BK356) | ((with_reducible refine gate_callee (f := 20) rfl ?_); refine gl (some 31) Try.func20 #[.agg #[.slice Ao84 t350.length co84, .slice Ao88 t353.length co88], .agg #[.slice Ao92 t357.length co92, .slice Ao97 t360.length co97]] ?_; (with_reducible refine (impl_SameRun.calls k _ _ t350 _ _ t353 _ _ t357 _ _ t360 t364 _ ?side1 ?side2 ?side3 ?side4 ?side5 ?side6 ?side7 ?side8 A24.out).mono ?_); (case side1 => refine (Kd.R_reads' (e := 65) (base := w.heap.size) (ok := fun k_ => (((True ∧ some k_ ≠ (.slice Ao76 t337.length co76 : Value).ownBlock) ∧ some k_ ≠ (.slice Ao78 t343.length co78 : Value).ownBlock) ∧ some k_ ≠ (.slice Ao92 t357.length co92 : Value).ownBlock)) (n := t350.length) (c := co84) ?_).2.2; exact (by refine ra (h := ?_); exact (Kd.R_mono (Kd.R_far (p := ⟨gb363, 1, none⟩) (Kd.R_far (p := ⟨gb363, 0, none⟩) (Kd.R_types HO352.out BK363.out (by decide)) (fun _ hk => hk.2) (.slice Ao92 t357.length co92)) (fun _ hk => hk.2) (.slice Ao97 t360.length co97)) (fun _ h_ => h_.1)))); (case side2 => exact (Kd.R_reads' HO352.out).2.1); (case side3 => refine (Kd.R_reads' (e := 98) (base := w.heap.size) (ok := fun k_ => (((True ∧ some k_ ≠ (.slice Ao77 t340.length co77 : Value).ownBlock) ∧ some k_ ≠ (.slice Ao79 t346.length co79 : Value).ownBlock) ∧ some k_ ≠ (.slice Ao97 t360.length co97 : Value).ownBlock)) (n := t353.length) (c := co88) ?_).2.2; exact (by refine ra (h := ?_); exact (Kd.R_mono (Kd.R_far (p := ⟨gb363, 1, none⟩) (Kd.R_far (p := ⟨gb363, 0, none⟩) (Kd.R_types HO355.out BK363.out (by decide)) (fun _ hk => hk.2) (.slice Ao92 t357.length co92)) (fun _ hk => hk.2) (.slice Ao97 t360.length co97)) (fun _ h_ => h_.1)))); (case side4 => exact (Kd.R_reads' HO355.out).2.1); (case side5 => refine (Kd.R_reads' (e := 65) (base := w.heap.size) (ok := fun k_ => (((True ∧ some k_ ≠ (.slice Ao76 t337.length co76 : Value).ownBlock) ∧ some k_ ≠ (.slice Ao78 t343.length co78 : Value).ownBlock) ∧ some k_ ≠ (.slice Ao84 t350.length co84 : Value).ownBlock)) (n := t357.length) (c := co92) ?_).2.2; exact (by refine ra (h := ?_); exact (Kd.R_mono (Kd.R_far (p := ⟨gb363, 1, none⟩) (Kd.R_far (p := ⟨gb363, 0, none⟩) (Kd.R_types HO359.out BK363.out (by decide)) (fun _ hk => hk.2) (.slice Ao92 t357.length co92)) (fun _ hk => hk.2) (.slice Ao97 t360.length co97)) (fun _ h_ => h_.1)))); (case side6 => exact (Kd.R_reads' HO359.out).2.1); (case side7 => refine (Kd.R_reads' (e := 98) (base := w.heap.size) (ok := fun k_ => (((True ∧ some k_ ≠ (.slice Ao77 t340.length co77 : Value).ownBlock) ∧ some k_ ≠ (.slice Ao79 t346.length co79 : Value).ownBlock) ∧ some k_ ≠ (.slice Ao88 t353.length co88 : Value).ownBlock)) (n := t360.length) (c := co97) ?_).2.2; exact (by refine ra (h := ?_); exact (Kd.R_mono (Kd.R_far (p := ⟨gb363, 1, none⟩) (Kd.R_far (p := ⟨gb363, 0, none⟩) (Kd.R_types HO362.out BK363.out (by decide)) (fun _ hk => hk.2) (.slice Ao92 t357.length co92)) (fun _ hk => hk.2) (.slice Ao97 t360.length co97)) (fun _ h_ => h_.1)))); (case side8 => exact (Kd.R_reads' HO362.out).2.1); rintro e w99 ⟨rfl, hb⟩; refine ⟨_, rfl, ?_⟩; replace HO339 := Aside0.mk (Kd.R_below (by refine ra (h := ?_); exact (Kd.R_mono (Kd.R_far (p := ⟨gb363, 1, none⟩) (Kd.R_far (p := ⟨gb363, 0, none⟩) (Kd.R_types HO339.out BK363.out (by decide)) (fun _ hk => hk.2) (.slice Ao92 t357.length co92)) (fun _ hk => hk.2) (.slice Ao97 t360.length co97)) (fun _ h_ => h_.1))) hb); replace HO342 := Aside0.mk (Kd.R_below (by refine ra (h := ?_); exact (Kd.R_mono (Kd.R_far (p := ⟨gb363, 1, none⟩) (Kd.R_far (p := ⟨gb363, 0, none⟩) (Kd.R_types HO342.out BK363.out (by decide)) (fun _ hk => hk.2) (.slice Ao92 t357.length co92)) (fun _ hk => hk.2) (.slice Ao97 t360.length co97)) (fun _ h_ => h_.1))) hb); replace HO345 := Aside0.mk (Kd.R_below (by refine ra (h := ?_); exact (Kd.R_mono (Kd.R_far (p := ⟨gb363, 1, none⟩) (Kd.R_far (p := ⟨gb363, 0, none⟩) (Kd.R_types HO345.out BK363.out (by decide)) (fun _ hk => hk.2) (.slice Ao92 t357.length co92)) (fun _ hk => hk.2) (.slice Ao97 t360.length co97)) (fun _ h_ => h_.1))) hb); replace HO348 := Aside0.mk (Kd.R_below (by refine ra (h := ?_); exact (Kd.R_mono (Kd.R_far (p := ⟨gb363, 1, none⟩) (Kd.R_far (p := ⟨gb363, 0, none⟩) (Kd.R_types HO348.out BK363.out (by decide)) (fun _ hk => hk.2) (.slice Ao92 t357.length co92)) (fun _ hk => hk.2) (.slice Ao97 t360.length co97)) (fun _ h_ => h_.1))) hb); replace HO352 := Aside0.mk (Kd.R_below (by refine ra (h := ?_); exact (Kd.R_mono (Kd.R_far (p := ⟨gb363, 1, none⟩) (Kd.R_far (p := ⟨gb363, 0, none⟩) (Kd.R_types HO352.out BK363.out (by decide)) (fun _ hk => hk.2) (.slice Ao92 t357.length co92)) (fun _ hk => hk.2) (.slice Ao97 t360.length co97)) (fun _ h_ => h_.1))) hb); replace HO355 := Aside0.mk (Kd.R_below (by refine ra (h := ?_); exact (Kd.R_mono (Kd.R_far (p := ⟨gb363, 1, none⟩) (Kd.R_far (p := ⟨gb363, 0, none⟩) (Kd.R_types HO355.out BK363.out (by decide)) (fun _ hk => hk.2) (.slice Ao92 t357.length co92)) (fun _ hk => hk.2) (.slice Ao97 t360.length co97)) (fun _ h_ => h_.1))) hb); replace HO359 := Aside0.mk (Kd.R_below (by refine ra (h := ?_); exact (Kd.R_mono (Kd.R_far (p := ⟨gb363, 1, none⟩) (Kd.R_far (p := ⟨gb363, 0, none⟩) (Kd.R_types HO359.out BK363.out (by decide)) (fun _ hk => hk.2) (.slice Ao92 t357.length co92)) (fun _ hk => hk.2) (.slice Ao97 t360.length co97)) (fun _ h_ => h_.1))) hb); replace HO362 := Aside0.mk (Kd.R_below (by refine ra (h := ?_); exact (Kd.R_mono (Kd.R_far (p := ⟨gb363, 1, none⟩) (Kd.R_far (p := ⟨gb363, 0, none⟩) (Kd.R_types HO362.out BK363.out (by decide)) (fun _ hk => hk.2) (.slice Ao92 t357.length co92)) (fun _ hk => hk.2) (.slice Ao97 t360.length co97)) (fun _ h_ => h_.1))) hb); replace BK333 := Aside0.mk (blk_below (g := gb333) (o := .cells #[.slice A0_0 l0_0.length c0_0, .slice A0_1 l0_1.length c0_1] 37 (0, 0)) (by refine bk (h := ?_); refine blk_far ?_ NB333_363.out _; refine bk (h := ?_); refine blk_far ?_ NB333_363.out _; refine bk (h := ?_); exact BK333.out) hb); replace BK334 := Aside0.mk (blk_below (g := gb334) (o := .cells #[.slice A1_0 l1_0.length c1_0, .slice A1_1 l1_1.length c1_1] 37 (0, 0)) (by refine bk (h := ?_); refine blk_far ?_ NB334_363.out _; refine bk (h := ?_); refine blk_far ?_ NB334_363.out _; refine bk (h := ?_); exact BK334.out) hb); replace BK356 := Aside0.mk (blk_below (g := gb356) (o := .cells #[.slice Ao84 t350.length co84, .slice Ao88 t353.length co88] 43 (0, 0)) (by refine bk (h := ?_); refine blk_far ?_ NB356_363.out _; refine bk (h := ?_); refine blk_far ?_ NB356_363.out _; refine bk (h := ?_); exact BK356.out) hb); replace BK363 := Aside0.mk (blk_below (g := gb363) (o := .cells #[.slice Ao92 t357.length co92, .slice Ao97 t360.length co97] 43 (0, 0)) (by refine bk (h := ?_); refine blk_put (cs := #[.slice Ao92 t357.length co92, .slice none 0 0]) ?_ 1 _ rfl; refine bk (h := ?_); refine blk_put (cs := #[.slice none 0 0, .slice none 0 0]) ?_ 0 _ rfl; refine bk (h := ?_); exact BK363.out) hb); replace HB := bs hb; (try clear hb); (try clear hb2); (try clear hk); (try clear hi)))
            replace HO339 := Aside0.mk (Kd.R_drew HO339.out)
            replace HO342 := Aside0.mk (Kd.R_drew HO342.out)
            replace HO345 := Aside0.mk (Kd.R_drew HO345.out)
            replace HO348 := Aside0.mk (Kd.R_drew HO348.out)
            replace HO352 := Aside0.mk (Kd.R_drew HO352.out)
            replace HO355 := Aside0.mk (Kd.R_drew HO355.out)
            replace HO359 := Aside0.mk (Kd.R_drew HO359.out)
            replace HO362 := Aside0.mk (Kd.R_drew HO362.out)
            replace BK333 := Aside0.mk (blk_drew BK333.out)
            replace BK334 := Aside0.mk (blk_drew BK334.out)
            replace BK356 := Aside0.mk (blk_drew BK356.out)
            replace BK363 := Aside0.mk (blk_drew BK363.out)
            replace HB := Aside0.mk (below_drew1 HB.out)
            refine start_ (n := 5) (S := fun w' => w'.cell? ⟨gb356, 0, none⟩ = some (.slice Ao84 t350.length co84) ∧ w'.cell? ⟨gb356, 1, none⟩ = some (.slice Ao88 t353.length co88) ∧ w'.cell? ⟨gb333, 0, none⟩ = some (.slice A0_0 l0_0.length c0_0) ∧ w'.cell? ⟨gb333, 1, none⟩ = some (.slice A0_1 l0_1.length c0_1)) (ds := []) #[false, false, false, false, false] (by kernel_rfl) rfl rfl ⟨(blk_cell BK356.out 0).trans rfl, (blk_cell BK356.out 1).trans rfl, (blk_cell BK333.out 0).trans rfl, (blk_cell BK333.out 1).trans rfl⟩ (fun hHeld => ?_)
            generalize w99.drew = w100 at HO339 HO342 HO345 HO348 HO352 HO355 HO359 HO362 BK333 BK334 BK356 BK363 HB hHeld ⊢
            refine take_ (i := 0) (N := some 35) (v := ?_) (a' := ?_) #[true, false, false, false, false] rfl rfl (by kernel_rfl) (fun _ _ _ h => h) (Or.inl ⟨by rfl, ?_⟩) hHeld ?_ ?_
            rotate_left
            · rintro w' ⟨s0, s1, s2, s3⟩
              go_simp
              with_reducible rfl
            rotate_left
            · simp only [Act.put, List.setIfInBounds_toArray, List.set_cons_zero, List.set_cons_succ, i64_w, i32_w]
              rfl
            refine take_ (i := 1) (N := some 36) (v := ?_) (a' := ?_) #[true, true, false, false, false] rfl rfl (by kernel_rfl) (fun _ _ _ h => h) (Or.inl ⟨by rfl, ?_⟩) hHeld ?_ ?_
            rotate_left
            · rintro w' ⟨s0, s1, s2, s3⟩
              go_simp
              with_reducible rfl
            rotate_left
            · simp only [Act.put, List.setIfInBounds_toArray, List.set_cons_zero, List.set_cons_succ, i64_w, i32_w]
              rfl
            refine one_ (i := 2) (N := some 37) #[true, true, true, false, false] rfl rfl (by kernel_rfl) (by decide) (fun K hK => ?_)
            refine goes_ Try.func19 (by kernel_rfl) rfl #[.agg #[.slice _ l0_0.length c0_0, .slice _ l0_1.length c0_1]] (by rfl) rfl rfl (by (try simp only [List.map_toArray, List.map_cons, List.map_nil]); first | done | rfl | (simp only [List.length_drop, List.length_take]; rfl)) ?_
            with_reducible refine (laws_toRun.calls k _ _ l0_0 _ _ l0_1 t365 t368 _ ?side1 ?side2 ?side3 ?side4 A60.out).mono ?_
            (case side1 => exact sd HR0_0)
            (case side2 => exact HC0_0.out)
            (case side3 => exact sd HR0_1)
            (case side4 => exact HC0_1.out)
            rintro e w101 ⟨v366, v369, rfl, ho0, ho1, hb⟩
            refine ⟨_, rfl, ?_⟩
            have HO367 := Aside0.mk (Kd.R_lower (Kd.R_new' (Kd.R_new' (Kd.R_new' (Kd.R_new' ho0 (Kd.R_lt (ra (h := HO339.out)))) (Kd.R_lt (ra (h := HO345.out)))) (Kd.R_lt (ra (h := HO352.out)))) (Kd.R_lt (ra (h := HO359.out)))) (below_size bw))
            have HO370 := Aside0.mk (Kd.R_lower (Kd.R_new' (Kd.R_new' (Kd.R_new' (Kd.R_new' ho1 (Kd.R_lt (ra (h := HO342.out)))) (Kd.R_lt (ra (h := HO348.out)))) (Kd.R_lt (ra (h := HO355.out)))) (Kd.R_lt (ra (h := HO362.out)))) (below_size bw))
            replace HO339 := Aside0.mk (Kd.R_elder' (ra (h := HO339.out)) (Kd.R_base ho0) hb)
            replace HO342 := Aside0.mk (Kd.R_elder' (ra (h := HO342.out)) (Kd.R_base ho1) hb)
            replace HO345 := Aside0.mk (Kd.R_elder' (ra (h := HO345.out)) (Kd.R_base ho0) hb)
            replace HO348 := Aside0.mk (Kd.R_elder' (ra (h := HO348.out)) (Kd.R_base ho1) hb)
            replace HO352 := Aside0.mk (Kd.R_elder' (ra (h := HO352.out)) (Kd.R_base ho0) hb)
            replace HO355 := Aside0.mk (Kd.R_elder' (ra (h := HO355.out)) (Kd.R_base ho1) hb)
            replace HO359 := Aside0.mk (Kd.R_elder' (ra (h := HO359.out)) (Kd.R_base ho0) hb)
            replace HO362 := Aside0.mk (Kd.R_elder' (ra (h := HO362.out)) (Kd.R_base ho1) hb)
            replace BK333 := bb BK333 hb
            replace BK334 := bb BK334 hb
            replace BK356 := bb BK356 hb
            replace BK363 := bb BK363 hb
            replace HB := bs hb
            (try clear hb)
            (try clear hb2)
            (try clear hk)
            (try clear hi)
            (try clear ho0)
            (try clear ho1)
            obtain ⟨Ao102, co102, eo102⟩ := Kd.R_slice HO367.out
            (first | subst eo102 | (injection eo102 with f1_ f2_ f3_; have f4_ := f1_.symm; have f5_ := f3_.symm; clear f1_ f2_ f3_; subst f4_; subst f5_))
            obtain ⟨Ao103, co103, eo103⟩ := Kd.R_slice HO370.out
            (first | subst eo103 | (injection eo103 with f1_ f2_ f3_; have f4_ := f1_.symm; have f5_ := f3_.symm; clear f1_ f2_ f3_; subst f4_; subst f5_))
            refine hK.out _ _ ⟨(blk_cell BK356.out 0).trans rfl, (blk_cell BK356.out 1).trans rfl, (blk_cell BK333.out 0).trans rfl, (blk_cell BK333.out 1).trans rfl⟩ (fun hHeld => ?_)
            clear hK K
            refine norm_ (a' := ?_) ?_ ?_
            rotate_left
            · show Act.put _ (some 37) _ = _
              simp only [Act.put, List.setIfInBounds_toArray, List.set_cons_zero, List.set_cons_succ, i64_w, i32_w]
              rfl
            refine one_ (i := 3) (N := some 38) #[true, true, true, true, false] rfl rfl (by kernel_rfl) (by decide) (fun K hK => ?_)
            refine goes_ Try.func21 (by kernel_rfl) rfl #[.agg #[.slice _ t350.length co84, .slice _ t353.length co88], .agg #[.slice _ t365.length co102, .slice _ t368.length co103]] (by rfl) rfl rfl (by (try simp only [List.map_toArray, List.map_cons, List.map_nil]); first | done | rfl | (simp only [List.length_drop, List.length_take]; rfl)) ?_
            with_reducible refine (laws_eqRun.calls k _ _ t350 _ _ t353 _ _ t365 _ _ t368 true _ ?side1 ?side2 ?side3 ?side4 ?side5 ?side6 ?side7 ?side8 A61.out).mono ?_
            (case side1 => exact se HO352)
            (case side2 => exact (Kd.R_reads' HO352.out).2.1)
            (case side3 => exact se HO355)
            (case side4 => exact (Kd.R_reads' HO355.out).2.1)
            (case side5 => exact se HO367)
            (case side6 => exact (Kd.R_reads' HO367.out).2.1)
            (case side7 => exact se HO370)
            (case side8 => exact (Kd.R_reads' HO370.out).2.1)
            rintro e w104 ⟨rfl, hb⟩
            refine ⟨_, rfl, ?_⟩
            replace HO339 := Aside0.mk (Kd.R_below (ra (h := HO339.out)) hb)
            replace HO342 := Aside0.mk (Kd.R_below (ra (h := HO342.out)) hb)
            replace HO345 := Aside0.mk (Kd.R_below (ra (h := HO345.out)) hb)
            replace HO348 := Aside0.mk (Kd.R_below (ra (h := HO348.out)) hb)
            replace HO352 := Aside0.mk (Kd.R_below (ra (h := HO352.out)) hb)
            replace HO355 := Aside0.mk (Kd.R_below (ra (h := HO355.out)) hb)
            replace HO359 := Aside0.mk (Kd.R_below (ra (h := HO359.out)) hb)
            replace HO362 := Aside0.mk (Kd.R_below (ra (h := HO362.out)) hb)
            replace HO367 := Aside0.mk (Kd.R_below (ra (h := HO367.out)) hb)
            replace HO370 := Aside0.mk (Kd.R_below (ra (h := HO370.out)) hb)
            replace BK333 := bb BK333 hb
            replace BK334 := bb BK334 hb
            replace BK356 := bb BK356 hb
            replace BK363 := bb BK363 hb
            replace HB := bs hb
            (try clear hb)
            (try clear hb2)
            (try clear hk)
            (try clear hi)
            refine hK.out _ _ ⟨(blk_cell BK356.out 0).trans rfl, (blk_cell BK356.out 1).trans rfl, (blk_cell BK333.out 0).trans rfl, (blk_cell BK333.out 1).trans rfl⟩ (fun hHeld => ?_)
            clear hK K
            refine norm_ (a' := ?_) ?_ ?_
            rotate_left
            · show Act.put _ (some 38) _ = _
              simp only [Act.put, List.setIfInBounds_toArray, List.set_cons_zero, List.set_cons_succ, i64_w, i32_w]
              rfl
            refine pure_ (i := 4) (N := some 39) (v := ?_) (a' := ?_) #[true, true, true, true, true] rfl rfl (by kernel_rfl) (fun _ _ _ h => h) (Or.inl ⟨by rfl, ?_⟩) ?_ ?_
            rotate_left
            · intro w'
              go_simp
              with_reducible rfl
            rotate_left
            · simp only [Act.put, List.setIfInBounds_toArray, List.set_cons_zero, List.set_cons_succ, i64_w, i32_w]
              rfl
            refine done_ (by kernel_rfl) ?_
            try go_wp2
            replace HO339 := Aside0.mk (Kd.R_drew HO339.out)
            replace HO342 := Aside0.mk (Kd.R_drew HO342.out)
            replace HO345 := Aside0.mk (Kd.R_drew HO345.out)
            replace HO348 := Aside0.mk (Kd.R_drew HO348.out)
            replace HO352 := Aside0.mk (Kd.R_drew HO352.out)
            replace HO355 := Aside0.mk (Kd.R_drew HO355.out)
            replace HO359 := Aside0.mk (Kd.R_drew HO359.out)
            replace HO362 := Aside0.mk (Kd.R_drew HO362.out)
            replace HO367 := Aside0.mk (Kd.R_drew HO367.out)
            replace HO370 := Aside0.mk (Kd.R_drew HO370.out)
            replace BK333 := Aside0.mk (blk_drew BK333.out)
            replace BK334 := Aside0.mk (blk_drew BK334.out)
            replace BK356 := Aside0.mk (blk_drew BK356.out)
            replace BK363 := Aside0.mk (blk_drew BK363.out)
            replace HB := Aside0.mk (below_drew1 HB.out)
            refine start_ (n := 5) (S := fun w' => w'.cell? ⟨gb363, 0, none⟩ = some (.slice Ao92 t357.length co92) ∧ w'.cell? ⟨gb363, 1, none⟩ = some (.slice Ao97 t360.length co97) ∧ w'.cell? ⟨gb334, 0, none⟩ = some (.slice A1_0 l1_0.length c1_0) ∧ w'.cell? ⟨gb334, 1, none⟩ = some (.slice A1_1 l1_1.length c1_1)) (ds := []) #[false, false, false, false, false] (by kernel_rfl) rfl rfl ⟨(blk_cell BK363.out 0).trans rfl, (blk_cell BK363.out 1).trans rfl, (blk_cell BK334.out 0).trans rfl, (blk_cell BK334.out 1).trans rfl⟩ (fun hHeld => ?_)
            generalize w104.drew = w105 at HO339 HO342 HO345 HO348 HO352 HO355 HO359 HO362 HO367 HO370 BK333 BK334 BK356 BK363 HB hHeld ⊢
            refine take_ (i := 0) (N := some 40) (v := ?_) (a' := ?_) #[true, false, false, false, false] rfl rfl (by kernel_rfl) (fun _ _ _ h => h) (Or.inl ⟨by rfl, ?_⟩) hHeld ?_ ?_
            rotate_left
            · rintro w' ⟨s0, s1, s2, s3⟩
              go_simp
              with_reducible rfl
            rotate_left
            · simp only [Act.put, List.setIfInBounds_toArray, List.set_cons_zero, List.set_cons_succ, i64_w, i32_w]
              rfl
            refine take_ (i := 1) (N := some 41) (v := ?_) (a' := ?_) #[true, true, false, false, false] rfl rfl (by kernel_rfl) (fun _ _ _ h => h) (Or.inl ⟨by rfl, ?_⟩) hHeld ?_ ?_
            rotate_left
            · rintro w' ⟨s0, s1, s2, s3⟩
              go_simp
              with_reducible rfl
            rotate_left
            · simp only [Act.put, List.setIfInBounds_toArray, List.set_cons_zero, List.set_cons_succ, i64_w, i32_w]
              rfl
            refine one_ (i := 2) (N := some 42) #[true, true, true, false, false] rfl rfl (by kernel_rfl) (by decide) (fun K hK => ?_)
            refine goes_ Try.func19 (by kernel_rfl) rfl #[.agg #[.slice _ l1_0.length c1_0, .slice _ l1_1.length c1_1]] (by rfl) rfl rfl (by (try simp only [List.map_toArray, List.map_cons, List.map_nil]); first | done | rfl | (simp only [List.length_drop, List.length_take]; rfl)) ?_
            with_reducible refine (laws_toRun.calls k _ _ l1_0 _ _ l1_1 t372 t375 _ ?side1 ?side2 ?side3 ?side4 A63.out).mono ?_
            (case side1 => exact sd HR1_0)
            (case side2 => exact HC1_0.out)
            (case side3 => exact sd HR1_1)
            (case side4 => exact HC1_1.out)
            rintro e w106 ⟨v373, v376, rfl, ho0, ho1, hb⟩
            refine ⟨_, rfl, ?_⟩
            have HO374 := Aside0.mk (Kd.R_lower (Kd.R_new' (Kd.R_new' (Kd.R_new' (Kd.R_new' (Kd.R_new' ho0 (Kd.R_lt (ra (h := HO339.out)))) (Kd.R_lt (ra (h := HO345.out)))) (Kd.R_lt (ra (h := HO352.out)))) (Kd.R_lt (ra (h := HO359.out)))) (Kd.R_lt (ra (h := HO367.out)))) (below_size bw))
            have HO377 := Aside0.mk (Kd.R_lower (Kd.R_new' (Kd.R_new' (Kd.R_new' (Kd.R_new' (Kd.R_new' ho1 (Kd.R_lt (ra (h := HO342.out)))) (Kd.R_lt (ra (h := HO348.out)))) (Kd.R_lt (ra (h := HO355.out)))) (Kd.R_lt (ra (h := HO362.out)))) (Kd.R_lt (ra (h := HO370.out)))) (below_size bw))
            replace HO339 := Aside0.mk (Kd.R_elder' (ra (h := HO339.out)) (Kd.R_base ho0) hb)
            replace HO342 := Aside0.mk (Kd.R_elder' (ra (h := HO342.out)) (Kd.R_base ho1) hb)
            replace HO345 := Aside0.mk (Kd.R_elder' (ra (h := HO345.out)) (Kd.R_base ho0) hb)
            replace HO348 := Aside0.mk (Kd.R_elder' (ra (h := HO348.out)) (Kd.R_base ho1) hb)
            replace HO352 := Aside0.mk (Kd.R_elder' (ra (h := HO352.out)) (Kd.R_base ho0) hb)
            replace HO355 := Aside0.mk (Kd.R_elder' (ra (h := HO355.out)) (Kd.R_base ho1) hb)
            replace HO359 := Aside0.mk (Kd.R_elder' (ra (h := HO359.out)) (Kd.R_base ho0) hb)
            replace HO362 := Aside0.mk (Kd.R_elder' (ra (h := HO362.out)) (Kd.R_base ho1) hb)
            replace HO367 := Aside0.mk (Kd.R_elder' (ra (h := HO367.out)) (Kd.R_base ho0) hb)
            replace HO370 := Aside0.mk (Kd.R_elder' (ra (h := HO370.out)) (Kd.R_base ho1) hb)
            replace BK333 := bb BK333 hb
            replace BK334 := bb BK334 hb
            replace BK356 := bb BK356 hb
            replace BK363 := bb BK363 hb
            replace HB := bs hb
            (try clear hb)
            (try clear hb2)
            (try clear hk)
            (try clear hi)
            (try clear ho0)
            (try clear ho1)
            obtain ⟨Ao107, co107, eo107⟩ := Kd.R_slice HO374.out
            (first | subst eo107 | (injection eo107 with f1_ f2_ f3_; have f4_ := f1_.symm; have f5_ := f3_.symm; clear f1_ f2_ f3_; subst f4_; subst f5_))
            obtain ⟨Ao108, co108, eo108⟩ := Kd.R_slice HO377.out
            (first | subst eo108 | (injection eo108 with f1_ f2_ f3_; have f4_ := f1_.symm; have f5_ := f3_.symm; clear f1_ f2_ f3_; subst f4_; subst f5_))
            refine hK.out _ _ ⟨(blk_cell BK363.out 0).trans rfl, (blk_cell BK363.out 1).trans rfl, (blk_cell BK334.out 0).trans rfl, (blk_cell BK334.out 1).trans rfl⟩ (fun hHeld => ?_)
            clear hK K
            refine norm_ (a' := ?_) ?_ ?_
            rotate_left
            · show Act.put _ (some 42) _ = _
              simp only [Act.put, List.setIfInBounds_toArray, List.set_cons_zero, List.set_cons_succ, i64_w, i32_w]
              rfl
            refine one_ (i := 3) (N := some 43) #[true, true, true, true, false] rfl rfl (by kernel_rfl) (by decide) (fun K hK => ?_)
            refine goes_ Try.func21 (by kernel_rfl) rfl #[.agg #[.slice _ t357.length co92, .slice _ t360.length co97], .agg #[.slice _ t372.length co107, .slice _ t375.length co108]] (by rfl) rfl rfl (by (try simp only [List.map_toArray, List.map_cons, List.map_nil]); first | done | rfl | (simp only [List.length_drop, List.length_take]; rfl)) ?_
            with_reducible refine (laws_eqRun.calls k _ _ t357 _ _ t360 _ _ t372 _ _ t375 true _ ?side1 ?side2 ?side3 ?side4 ?side5 ?side6 ?side7 ?side8 A64.out).mono ?_
            (case side1 => exact se HO359)
            (case side2 => exact (Kd.R_reads' HO359.out).2.1)
            (case side3 => exact se HO362)
            (case side4 => exact (Kd.R_reads' HO362.out).2.1)
            (case side5 => exact se HO374)
            (case side6 => exact (Kd.R_reads' HO374.out).2.1)
            (case side7 => exact se HO377)
            (case side8 => exact (Kd.R_reads' HO377.out).2.1)
            rintro e w109 ⟨rfl, hb⟩
            refine ⟨_, rfl, ?_⟩
            replace HO339 := Aside0.mk (Kd.R_below (ra (h := HO339.out)) hb)
            replace HO342 := Aside0.mk (Kd.R_below (ra (h := HO342.out)) hb)
            replace HO345 := Aside0.mk (Kd.R_below (ra (h := HO345.out)) hb)
            replace HO348 := Aside0.mk (Kd.R_below (ra (h := HO348.out)) hb)
            replace HO352 := Aside0.mk (Kd.R_below (ra (h := HO352.out)) hb)
            replace HO355 := Aside0.mk (Kd.R_below (ra (h := HO355.out)) hb)
            replace HO359 := Aside0.mk (Kd.R_below (ra (h := HO359.out)) hb)
            replace HO362 := Aside0.mk (Kd.R_below (ra (h := HO362.out)) hb)
            replace HO367 := Aside0.mk (Kd.R_below (ra (h := HO367.out)) hb)
            replace HO370 := Aside0.mk (Kd.R_below (ra (h := HO370.out)) hb)
            replace HO374 := Aside0.mk (Kd.R_below (ra (h := HO374.out)) hb)
            replace HO377 := Aside0.mk (Kd.R_below (ra (h := HO377.out)) hb)
            replace BK333 := bb BK333 hb
            replace BK334 := bb BK334 hb
            replace BK356 := bb BK356 hb
            replace BK363 := bb BK363 hb
            replace HB := bs hb
            (try clear hb)
            (try clear hb2)
            (try clear hk)
            (try clear hi)
            refine hK.out _ _ ⟨(blk_cell BK363.out 0).trans rfl, (blk_cell BK363.out 1).trans rfl, (blk_cell BK334.out 0).trans rfl, (blk_cell BK334.out 1).trans rfl⟩ (fun hHeld => ?_)
            clear hK K
            refine norm_ (a' := ?_) ?_ ?_
            rotate_left
            · show Act.put _ (some 43) _ = _
              simp only [Act.put, List.setIfInBounds_toArray, List.set_cons_zero, List.set_cons_succ, i64_w, i32_w]
              rfl
            refine pure_ (i := 4) (N := some 44) (v := ?_) (a' := ?_) #[true, true, true, true, true] rfl rfl (by kernel_rfl) (fun _ _ _ h => h) (Or.inl ⟨by rfl, ?_⟩) ?_ ?_
            rotate_left
            · intro w'
              go_simp
              with_reducible rfl
            rotate_left
            · simp only [Act.put, List.setIfInBounds_toArray, List.set_cons_zero, List.set_cons_succ, i64_w, i32_w]
              rfl
            refine done_ (by kernel_rfl) ?_
            try go_wp2
            go_ret
            exact ⟨er, bw⟩
          · replace c65 := Bool.eq_false_iff.mpr c65
            subst c65
            rw [if_neg nf] at H
            obtain rfl := Option.some.inj H
            go_enter Try.func4, Try.ntmps4
            try go_wp2_with (first | ((with_reducible refine gate_dst (N := 2) rfl ?_); refine bx #[.slice A0_0 l0_0.length c0_0, .slice A0_1 l0_1.length c0_1] 37 ?_; intro gb333 hg w110 hbox hb; have BK333 := Aside0.mk hbox; have GW333 := bg hg; have GE333 := bg hg; replace HB := bs hb; clear hb hbox hg) | ((with_reducible refine gate_dst (N := 3) rfl ?_); refine bx #[.slice A1_0 l1_0.length c1_0, .slice A1_1 l1_1.length c1_1] 37 ?_; intro gb334 hg w111 hbox hb; have BK334 := Aside0.mk hbox; have GW334 := bg hg; have GE334 := bg hg; have NB333_334 := bl BK333 hg; have NB334_333 := bv BK333 hg; replace BK333 := bb BK333 hb; replace HB := bs hb; clear hb hbox hg; have hnb112 := NB333_334.out; have hnc112 := NB334_333.out; obtain ⟨z113_0, z113_1, y113_0, y113_1⟩ := bq2 BK333) | ((with_reducible refine gate_callee (f := 17) rfl ?_); refine gl (some 12) Try.func17 #[.agg #[.slice A0_0 l0_0.length c0_0, .slice A0_1 l0_1.length c0_1], .int .i64 1048576] ?_; (with_reducible refine (laws_szRun.calls k _ _ l0_0 _ _ l0_1 1048576 t335 _ ?side1 ?side2 ?side3 ?side4 A3.out).mono ?_); (case side1 => exact sd HR0_0); (case side2 => exact HC0_0.out); (case side3 => exact sd HR0_1); (case side4 => exact HC0_1.out); rintro e w114 ⟨rfl, hb⟩; refine ⟨_, rfl, ?_⟩; replace BK333 := bb BK333 hb; replace BK334 := bb BK334 hb; replace HB := bs hb; (try clear hb); (try clear hb2); (try clear hk); (try clear hi); obtain ⟨z115_0, z115_1, y115_0, y115_1⟩ := bq2 BK334) | ((with_reducible refine gate_callee (f := 17) rfl ?_); refine gl (some 17) Try.func17 #[.agg #[.slice A1_0 l1_0.length c1_0, .slice A1_1 l1_1.length c1_1], .int .i64 t335] ?_; (with_reducible refine (laws_szRun.calls k _ _ l1_0 _ _ l1_1 t335 t336 _ ?side1 ?side2 ?side3 ?side4 A10.out).mono ?_); (case side1 => exact sd HR1_0); (case side2 => exact HC1_0.out); (case side3 => exact sd HR1_1); (case side4 => exact HC1_1.out); rintro e w116 ⟨rfl, hb⟩; refine ⟨_, rfl, ?_⟩; replace BK333 := bb BK333 hb; replace BK334 := bb BK334 hb; replace HB := bs hb; (try clear hb); (try clear hb2); (try clear hk); (try clear hi)))
            replace BK333 := Aside0.mk (blk_drew BK333.out)
            replace BK334 := Aside0.mk (blk_drew BK334.out)
            replace HB := Aside0.mk (below_drew1 HB.out)
            refine start_ (n := 6) (S := fun w' => w'.cell? ⟨gb333, 0, none⟩ = some (.slice A0_0 l0_0.length c0_0) ∧ w'.cell? ⟨gb333, 1, none⟩ = some (.slice A0_1 l0_1.length c0_1) ∧ w'.cell? ⟨gb334, 0, none⟩ = some (.slice A1_0 l1_0.length c1_0) ∧ w'.cell? ⟨gb334, 1, none⟩ = some (.slice A1_1 l1_1.length c1_1)) (ds := []) #[false, false, false, false, false, false] (by kernel_rfl) rfl rfl ⟨(blk_cell BK333.out 0).trans rfl, (blk_cell BK333.out 1).trans rfl, (blk_cell BK334.out 0).trans rfl, (blk_cell BK334.out 1).trans rfl⟩ (fun hHeld => ?_)
            generalize w116.drew = w117 at BK333 BK334 HB hHeld ⊢
            refine take_ (i := 0) (N := some 20) (v := ?_) (a' := ?_) #[true, false, false, false, false, false] rfl rfl (by kernel_rfl) (fun _ _ _ h => h) (Or.inl ⟨by rfl, ?_⟩) hHeld ?_ ?_
            rotate_left
            · rintro w' ⟨s0, s1, s2, s3⟩
              go_simp
              with_reducible rfl
            rotate_left
            · simp only [Act.put, List.setIfInBounds_toArray, List.set_cons_zero, List.set_cons_succ, i64_w, i32_w]
              rfl
            refine take_ (i := 2) (N := some 22) (v := ?_) (a' := ?_) #[true, false, true, false, false, false] rfl rfl (by kernel_rfl) (fun _ _ _ h => h) (Or.inl ⟨by rfl, ?_⟩) hHeld ?_ ?_
            rotate_left
            · rintro w' ⟨s0, s1, s2, s3⟩
              go_simp
              with_reducible rfl
            rotate_left
            · simp only [Act.put, List.setIfInBounds_toArray, List.set_cons_zero, List.set_cons_succ, i64_w, i32_w]
              rfl
            refine one_ (i := 1) (N := some 21) #[true, true, true, false, false, false] rfl rfl (by kernel_rfl) (by decide) (fun K hK => ?_)
            refine goes_ Try.func19 (by kernel_rfl) rfl #[.agg #[.slice _ l0_0.length c0_0, .slice _ l0_1.length c0_1]] (by rfl) rfl rfl (by (try simp only [List.map_toArray, List.map_cons, List.map_nil]); first | done | rfl | (simp only [List.length_drop, List.length_take]; rfl)) ?_
            with_reducible refine (laws_toRun.calls k _ _ l0_0 _ _ l0_1 t337 t340 _ ?side1 ?side2 ?side3 ?side4 A19.out).mono ?_
            (case side1 => exact sd HR0_0)
            (case side2 => exact HC0_0.out)
            (case side3 => exact sd HR0_1)
            (case side4 => exact HC0_1.out)
            rintro e w118 ⟨v338, v341, rfl, ho0, ho1, hb⟩
            refine ⟨_, rfl, ?_⟩
            have HO339 := Aside0.mk (Kd.R_lower ho0 (below_size bw))
            have HO342 := Aside0.mk (Kd.R_lower ho1 (below_size bw))
            replace BK333 := bb BK333 hb
            replace BK334 := bb BK334 hb
            replace HB := bs hb
            (try clear hb)
            (try clear hb2)
            (try clear hk)
            (try clear hi)
            (try clear ho0)
            (try clear ho1)
            refine hK.out _ _ ⟨(blk_cell BK333.out 0).trans rfl, (blk_cell BK333.out 1).trans rfl, (blk_cell BK334.out 0).trans rfl, (blk_cell BK334.out 1).trans rfl⟩ (fun hHeld => ?_)
            clear hK K
            refine norm_ (a' := ?_) ?_ ?_
            rotate_left
            · show Act.put _ (some 21) _ = _
              simp only [Act.put, List.setIfInBounds_toArray, List.set_cons_zero, List.set_cons_succ, i64_w, i32_w]
              rfl
            refine one_ (i := 3) (N := some 23) #[true, true, true, true, false, false] rfl rfl (by kernel_rfl) (by decide) (fun K hK => ?_)
            refine goes_ Try.func19 (by kernel_rfl) rfl #[.agg #[.slice _ l1_0.length c1_0, .slice _ l1_1.length c1_1]] (by rfl) rfl rfl (by (try simp only [List.map_toArray, List.map_cons, List.map_nil]); first | done | rfl | (simp only [List.length_drop, List.length_take]; rfl)) ?_
            with_reducible refine (laws_toRun.calls k _ _ l1_0 _ _ l1_1 t343 t346 _ ?side1 ?side2 ?side3 ?side4 A20.out).mono ?_
            (case side1 => exact sd HR1_0)
            (case side2 => exact HC1_0.out)
            (case side3 => exact sd HR1_1)
            (case side4 => exact HC1_1.out)
            rintro e w119 ⟨v344, v347, rfl, ho0, ho1, hb⟩
            refine ⟨_, rfl, ?_⟩
            have HO345 := Aside0.mk (Kd.R_lower (Kd.R_new' ho0 (Kd.R_lt (ra (h := HO339.out)))) (below_size bw))
            have HO348 := Aside0.mk (Kd.R_lower (Kd.R_new' ho1 (Kd.R_lt (ra (h := HO342.out)))) (below_size bw))
            replace HO339 := Aside0.mk (Kd.R_elder' (ra (h := HO339.out)) (Kd.R_base ho0) hb)
            replace HO342 := Aside0.mk (Kd.R_elder' (ra (h := HO342.out)) (Kd.R_base ho1) hb)
            replace BK333 := bb BK333 hb
            replace BK334 := bb BK334 hb
            replace HB := bs hb
            (try clear hb)
            (try clear hb2)
            (try clear hk)
            (try clear hi)
            (try clear ho0)
            (try clear ho1)
            obtain ⟨Ao120, co120, eo120⟩ := Kd.R_slice HO339.out
            (first | subst eo120 | (injection eo120 with f1_ f2_ f3_; have f4_ := f1_.symm; have f5_ := f3_.symm; clear f1_ f2_ f3_; subst f4_; subst f5_))
            obtain ⟨Ao121, co121, eo121⟩ := Kd.R_slice HO342.out
            (first | subst eo121 | (injection eo121 with f1_ f2_ f3_; have f4_ := f1_.symm; have f5_ := f3_.symm; clear f1_ f2_ f3_; subst f4_; subst f5_))
            obtain ⟨Ao122, co122, eo122⟩ := Kd.R_slice HO345.out
            (first | subst eo122 | (injection eo122 with f1_ f2_ f3_; have f4_ := f1_.symm; have f5_ := f3_.symm; clear f1_ f2_ f3_; subst f4_; subst f5_))
            obtain ⟨Ao123, co123, eo123⟩ := Kd.R_slice HO348.out
            (first | subst eo123 | (injection eo123 with f1_ f2_ f3_; have f4_ := f1_.symm; have f5_ := f3_.symm; clear f1_ f2_ f3_; subst f4_; subst f5_))
            refine hK.out _ _ ⟨(blk_cell BK333.out 0).trans rfl, (blk_cell BK333.out 1).trans rfl, (blk_cell BK334.out 0).trans rfl, (blk_cell BK334.out 1).trans rfl⟩ (fun hHeld => ?_)
            clear hK K
            refine norm_ (a' := ?_) ?_ ?_
            rotate_left
            · show Act.put _ (some 23) _ = _
              simp only [Act.put, List.setIfInBounds_toArray, List.set_cons_zero, List.set_cons_succ, i64_w, i32_w]
              rfl
            refine one_ (i := 4) (N := some 24) #[true, true, true, true, true, false] rfl rfl (by kernel_rfl) (by decide) (fun K hK => ?_)
            refine goes_ Try.func18 (by kernel_rfl) rfl #[.agg #[.slice _ t337.length co120, .slice _ t340.length co121], .agg #[.slice _ t343.length co122, .slice _ t346.length co123]] (by rfl) rfl rfl (by (try simp only [List.map_toArray, List.map_cons, List.map_nil]); first | done | rfl | (simp only [List.length_drop, List.length_take]; rfl)) ?_
            with_reducible refine (spec_SameRun.calls k _ _ t337 _ _ t340 _ _ t343 _ _ t346 t349 _ ?side1 ?side2 ?side3 ?side4 ?side5 ?side6 ?side7 ?side8 A21.out).mono ?_
            (case side1 => exact se HO339)
            (case side2 => exact (Kd.R_reads' HO339.out).2.1)
            (case side3 => exact se HO342)
            (case side4 => exact (Kd.R_reads' HO342.out).2.1)
            (case side5 => exact se HO345)
            (case side6 => exact (Kd.R_reads' HO345.out).2.1)
            (case side7 => exact se HO348)
            (case side8 => exact (Kd.R_reads' HO348.out).2.1)
            rintro e w124 ⟨rfl, hb⟩
            refine ⟨_, rfl, ?_⟩
            replace HO339 := Aside0.mk (Kd.R_below (ra (h := HO339.out)) hb)
            replace HO342 := Aside0.mk (Kd.R_below (ra (h := HO342.out)) hb)
            replace HO345 := Aside0.mk (Kd.R_below (ra (h := HO345.out)) hb)
            replace HO348 := Aside0.mk (Kd.R_below (ra (h := HO348.out)) hb)
            replace BK333 := bb BK333 hb
            replace BK334 := bb BK334 hb
            replace HB := bs hb
            (try clear hb)
            (try clear hb2)
            (try clear hk)
            (try clear hi)
            refine hK.out _ _ ⟨(blk_cell BK333.out 0).trans rfl, (blk_cell BK333.out 1).trans rfl, (blk_cell BK334.out 0).trans rfl, (blk_cell BK334.out 1).trans rfl⟩ (fun hHeld => ?_)
            clear hK K
            refine norm_ (a' := ?_) ?_ ?_
            rotate_left
            · show Act.put _ (some 24) _ = _
              simp only [Act.put, List.setIfInBounds_toArray, List.set_cons_zero, List.set_cons_succ, i64_w, i32_w]
              rfl
            refine pure_ (i := 5) (N := some 6) (v := ?_) (a' := ?_) #[true, true, true, true, true, true] rfl rfl (by kernel_rfl) (fun _ _ _ h => h) (Or.inl ⟨by rfl, ?_⟩) ?_ ?_
            rotate_left
            · intro w'
              go_simp
              with_reducible rfl
            rotate_left
            · simp only [Act.put, List.setIfInBounds_toArray, List.set_cons_zero, List.set_cons_succ, i64_w, i32_w]
              rfl
            refine done_ (by kernel_rfl) ?_
            obtain ⟨z125_0, z125_1, y125_0, y125_1⟩ := bq2 BK333
            try go_wp2_with (first | ((with_reducible refine gate_callee (f := 19) rfl ?_); refine gl (some 26) Try.func19 #[.agg #[.slice A0_0 l0_0.length c0_0, .slice A0_1 l0_1.length c0_1]] ?_; (with_reducible refine (laws_toRun.calls k _ _ l0_0 _ _ l0_1 t350 t353 _ ?side1 ?side2 ?side3 ?side4 A22.out).mono ?_); (case side1 => exact sd HR0_0); (case side2 => exact HC0_0.out); (case side3 => exact sd HR0_1); (case side4 => exact HC0_1.out); rintro e w126 ⟨v351, v354, rfl, ho0, ho1, hb⟩; refine ⟨_, rfl, ?_⟩; have HO352 := Aside0.mk (Kd.R_lower (Kd.R_new' (Kd.R_new' ho0 (Kd.R_lt (ra (h := HO339.out)))) (Kd.R_lt (ra (h := HO345.out)))) (below_size bw)); have HO355 := Aside0.mk (Kd.R_lower (Kd.R_new' (Kd.R_new' ho1 (Kd.R_lt (ra (h := HO342.out)))) (Kd.R_lt (ra (h := HO348.out)))) (below_size bw)); replace HO339 := Aside0.mk (Kd.R_elder' (ra (h := HO339.out)) (Kd.R_base ho0) hb); replace HO342 := Aside0.mk (Kd.R_elder' (ra (h := HO342.out)) (Kd.R_base ho1) hb); replace HO345 := Aside0.mk (Kd.R_elder' (ra (h := HO345.out)) (Kd.R_base ho0) hb); replace HO348 := Aside0.mk (Kd.R_elder' (ra (h := HO348.out)) (Kd.R_base ho1) hb); replace BK333 := bb BK333 hb; replace BK334 := bb BK334 hb; replace HB := bs hb; (try clear hb); (try clear hb2); (try clear hk); (try clear hi); (try clear ho0); (try clear ho1)) | ((with_reducible refine gate_dst (N := 7) rfl ?_); refine bx #[.slice none 0 0, .slice none 0 0] 43 ?_; intro gb356 hg w127 hbox hb; have BK356 := Aside0.mk hbox; have GW356 := bg hg; have GE356 := bg hg; have NB333_356 := bl BK333 hg; have NB356_333 := bv BK333 hg; have NB334_356 := bl BK334 hg; have NB356_334 := bv BK334 hg; replace HO339 := Aside0.mk (Kd.R_below (ra (h := HO339.out)) hb); replace HO342 := Aside0.mk (Kd.R_below (ra (h := HO342.out)) hb); replace HO345 := Aside0.mk (Kd.R_below (ra (h := HO345.out)) hb); replace HO348 := Aside0.mk (Kd.R_below (ra (h := HO348.out)) hb); replace HO352 := Aside0.mk (Kd.R_below (ra (h := HO352.out)) hb); replace HO355 := Aside0.mk (Kd.R_below (ra (h := HO355.out)) hb); replace BK333 := bb BK333 hb; replace BK334 := bb BK334 hb; replace HB := bs hb; clear hb hbox hg; obtain ⟨Ao128, co128, eo128⟩ := Kd.R_slice HO352.out; subst eo128; have hnb129 := NB356_333.out; have hnc129 := NB333_356.out; have hnb130 := NB356_334.out; have hnc130 := NB334_356.out; obtain ⟨z131_0, z131_1, y131_0, y131_1⟩ := bq2 BK356; obtain ⟨Ao132, co132, eo132⟩ := Kd.R_slice HO355.out; subst eo132; obtain ⟨z133_0, z133_1, y133_0, y133_1⟩ := bq2 BK334) | ((with_reducible refine gate_callee (f := 19) rfl ?_); refine gl (some 28) Try.func19 #[.agg #[.slice A1_0 l1_0.length c1_0, .slice A1_1 l1_1.length c1_1]] ?_; (with_reducible refine (laws_toRun.calls k _ _ l1_0 _ _ l1_1 t357 t360 _ ?side1 ?side2 ?side3 ?side4 A23.out).mono ?_); (case side1 => exact Kd.C_below HR1_0.out bw); (case side2 => exact HC1_0.out); (case side3 => exact Kd.C_below HR1_1.out bw); (case side4 => exact HC1_1.out); rintro e w134 ⟨v358, v361, rfl, ho0, ho1, hb⟩; refine ⟨_, rfl, ?_⟩; have HO359 := Aside0.mk (Kd.R_lower (Kd.R_new' (Kd.R_new' (Kd.R_new' ho0 (Kd.R_lt (by refine ra (h := ?_); exact (Kd.R_mono (Kd.R_far (p := ⟨gb356, 1, none⟩) (Kd.R_far (p := ⟨gb356, 0, none⟩) (Kd.R_types HO339.out BK356.out (by decide)) (fun _ hk => hk.2) (.slice Ao128 t350.length co128)) (fun _ hk => hk.2) (.slice Ao132 t353.length co132)) (fun _ h_ => h_.1))))) (Kd.R_lt (by refine ra (h := ?_); exact (Kd.R_mono (Kd.R_far (p := ⟨gb356, 1, none⟩) (Kd.R_far (p := ⟨gb356, 0, none⟩) (Kd.R_types HO345.out BK356.out (by decide)) (fun _ hk => hk.2) (.slice Ao128 t350.length co128)) (fun _ hk => hk.2) (.slice Ao132 t353.length co132)) (fun _ h_ => h_.1))))) (Kd.R_lt (by refine ra (h := ?_); exact (Kd.R_mono (Kd.R_far (p := ⟨gb356, 1, none⟩) (Kd.R_far (p := ⟨gb356, 0, none⟩) (Kd.R_types HO352.out BK356.out (by decide)) (fun _ hk => hk.2) (.slice Ao128 t350.length co128)) (fun _ hk => hk.2) (.slice Ao132 t353.length co132)) (fun _ h_ => h_.1))))) (below_size bw)); have HO362 := Aside0.mk (Kd.R_lower (Kd.R_new' (Kd.R_new' (Kd.R_new' ho1 (Kd.R_lt (by refine ra (h := ?_); exact (Kd.R_mono (Kd.R_far (p := ⟨gb356, 1, none⟩) (Kd.R_far (p := ⟨gb356, 0, none⟩) (Kd.R_types HO342.out BK356.out (by decide)) (fun _ hk => hk.2) (.slice Ao128 t350.length co128)) (fun _ hk => hk.2) (.slice Ao132 t353.length co132)) (fun _ h_ => h_.1))))) (Kd.R_lt (by refine ra (h := ?_); exact (Kd.R_mono (Kd.R_far (p := ⟨gb356, 1, none⟩) (Kd.R_far (p := ⟨gb356, 0, none⟩) (Kd.R_types HO348.out BK356.out (by decide)) (fun _ hk => hk.2) (.slice Ao128 t350.length co128)) (fun _ hk => hk.2) (.slice Ao132 t353.length co132)) (fun _ h_ => h_.1))))) (Kd.R_lt (by refine ra (h := ?_); exact (Kd.R_mono (Kd.R_far (p := ⟨gb356, 1, none⟩) (Kd.R_far (p := ⟨gb356, 0, none⟩) (Kd.R_types HO355.out BK356.out (by decide)) (fun _ hk => hk.2) (.slice Ao128 t350.length co128)) (fun _ hk => hk.2) (.slice Ao132 t353.length co132)) (fun _ h_ => h_.1))))) (below_size bw)); replace HO339 := Aside0.mk (Kd.R_elder' (by refine ra (h := ?_); exact (Kd.R_mono (Kd.R_far (p := ⟨gb356, 1, none⟩) (Kd.R_far (p := ⟨gb356, 0, none⟩) (Kd.R_types HO339.out BK356.out (by decide)) (fun _ hk => hk.2) (.slice Ao128 t350.length co128)) (fun _ hk => hk.2) (.slice Ao132 t353.length co132)) (fun _ h_ => h_.1))) (Kd.R_base ho0) hb); replace HO342 := Aside0.mk (Kd.R_elder' (by refine ra (h := ?_); exact (Kd.R_mono (Kd.R_far (p := ⟨gb356, 1, none⟩) (Kd.R_far (p := ⟨gb356, 0, none⟩) (Kd.R_types HO342.out BK356.out (by decide)) (fun _ hk => hk.2) (.slice Ao128 t350.length co128)) (fun _ hk => hk.2) (.slice Ao132 t353.length co132)) (fun _ h_ => h_.1))) (Kd.R_base ho1) hb); replace HO345 := Aside0.mk (Kd.R_elder' (by refine ra (h := ?_); exact (Kd.R_mono (Kd.R_far (p := ⟨gb356, 1, none⟩) (Kd.R_far (p := ⟨gb356, 0, none⟩) (Kd.R_types HO345.out BK356.out (by decide)) (fun _ hk => hk.2) (.slice Ao128 t350.length co128)) (fun _ hk => hk.2) (.slice Ao132 t353.length co132)) (fun _ h_ => h_.1))) (Kd.R_base ho0) hb); replace HO348 := Aside0.mk (Kd.R_elder' (by refine ra (h := ?_); exact (Kd.R_mono (Kd.R_far (p := ⟨gb356, 1, none⟩) (Kd.R_far (p := ⟨gb356, 0, none⟩) (Kd.R_types HO348.out BK356.out (by decide)) (fun _ hk => hk.2) (.slice Ao128 t350.length co128)) (fun _ hk => hk.2) (.slice Ao132 t353.length co132)) (fun _ h_ => h_.1))) (Kd.R_base ho1) hb); replace HO352 := Aside0.mk (Kd.R_elder' (by refine ra (h := ?_); exact (Kd.R_mono (Kd.R_far (p := ⟨gb356, 1, none⟩) (Kd.R_far (p := ⟨gb356, 0, none⟩) (Kd.R_types HO352.out BK356.out (by decide)) (fun _ hk => hk.2) (.slice Ao128 t350.length co128)) (fun _ hk => hk.2) (.slice Ao132 t353.length co132)) (fun _ h_ => h_.1))) (Kd.R_base ho0) hb); replace HO355 := Aside0.mk (Kd.R_elder' (by refine ra (h := ?_); exact (Kd.R_mono (Kd.R_far (p := ⟨gb356, 1, none⟩) (Kd.R_far (p := ⟨gb356, 0, none⟩) (Kd.R_types HO355.out BK356.out (by decide)) (fun _ hk => hk.2) (.slice Ao128 t350.length co128)) (fun _ hk => hk.2) (.slice Ao132 t353.length co132)) (fun _ h_ => h_.1))) (Kd.R_base ho1) hb); replace BK333 := Aside0.mk (blk_below (g := gb333) (o := .cells #[.slice A0_0 l0_0.length c0_0, .slice A0_1 l0_1.length c0_1] 37 (0, 0)) (by refine bk (h := ?_); refine blk_far ?_ NB333_356.out _; refine bk (h := ?_); refine blk_far ?_ NB333_356.out _; refine bk (h := ?_); exact BK333.out) hb); replace BK334 := Aside0.mk (blk_below (g := gb334) (o := .cells #[.slice A1_0 l1_0.length c1_0, .slice A1_1 l1_1.length c1_1] 37 (0, 0)) (by refine bk (h := ?_); refine blk_far ?_ NB334_356.out _; refine bk (h := ?_); refine blk_far ?_ NB334_356.out _; refine bk (h := ?_); exact BK334.out) hb); replace BK356 := Aside0.mk (blk_below (g := gb356) (o := .cells #[.slice Ao128 t350.length co128, .slice Ao132 t353.length co132] 43 (0, 0)) (by refine bk (h := ?_); refine blk_put (cs := #[.slice Ao128 t350.length co128, .slice none 0 0]) ?_ 1 _ rfl; refine bk (h := ?_); refine blk_put (cs := #[.slice none 0 0, .slice none 0 0]) ?_ 0 _ rfl; refine bk (h := ?_); exact BK356.out) hb); replace HB := bs hb; (try clear hb); (try clear hb2); (try clear hk); (try clear hi); (try clear ho0); (try clear ho1)) | ((with_reducible refine gate_dst (N := 8) rfl ?_); refine bx #[.slice none 0 0, .slice none 0 0] 43 ?_; intro gb363 hg w135 hbox hb; have BK363 := Aside0.mk hbox; have GW363 := bg hg; have GE363 := bg hg; have NB333_363 := bl BK333 hg; have NB363_333 := bv BK333 hg; have NB334_363 := bl BK334 hg; have NB363_334 := bv BK334 hg; have NB356_363 := bl BK356 hg; have NB363_356 := bv BK356 hg; replace HO339 := Aside0.mk (Kd.R_below (ra (h := HO339.out)) hb); replace HO342 := Aside0.mk (Kd.R_below (ra (h := HO342.out)) hb); replace HO345 := Aside0.mk (Kd.R_below (ra (h := HO345.out)) hb); replace HO348 := Aside0.mk (Kd.R_below (ra (h := HO348.out)) hb); replace HO352 := Aside0.mk (Kd.R_below (ra (h := HO352.out)) hb); replace HO355 := Aside0.mk (Kd.R_below (ra (h := HO355.out)) hb); replace HO359 := Aside0.mk (Kd.R_below (ra (h := HO359.out)) hb); replace HO362 := Aside0.mk (Kd.R_below (ra (h := HO362.out)) hb); replace BK333 := bb BK333 hb; replace BK334 := bb BK334 hb; replace BK356 := bb BK356 hb; replace HB := bs hb; clear hb hbox hg; obtain ⟨Ao136, co136, eo136⟩ := Kd.R_slice HO359.out; subst eo136; have hnb137 := NB363_333.out; have hnc137 := NB333_363.out; have hnb138 := NB363_334.out; have hnc138 := NB334_363.out; have hnb139 := NB363_356.out; have hnc139 := NB356_363.out; obtain ⟨z140_0, z140_1, y140_0, y140_1⟩ := bq2 BK363; obtain ⟨Ao141, co141, eo141⟩ := Kd.R_slice HO362.out; subst eo141; obtain ⟨z142_0, z142_1, y142_0, y142_1⟩ := bq2 BK356) | ((with_reducible refine gate_callee (f := 20) rfl ?_); refine gl (some 31) Try.func20 #[.agg #[.slice Ao128 t350.length co128, .slice Ao132 t353.length co132], .agg #[.slice Ao136 t357.length co136, .slice Ao141 t360.length co141]] ?_; (with_reducible refine (impl_SameRun.calls k _ _ t350 _ _ t353 _ _ t357 _ _ t360 t364 _ ?side1 ?side2 ?side3 ?side4 ?side5 ?side6 ?side7 ?side8 A24.out).mono ?_); (case side1 => refine (Kd.R_reads' (e := 65) (base := w.heap.size) (ok := fun k_ => (((True ∧ some k_ ≠ (.slice Ao120 t337.length co120 : Value).ownBlock) ∧ some k_ ≠ (.slice Ao122 t343.length co122 : Value).ownBlock) ∧ some k_ ≠ (.slice Ao136 t357.length co136 : Value).ownBlock)) (n := t350.length) (c := co128) ?_).2.2; exact (by refine ra (h := ?_); exact (Kd.R_mono (Kd.R_far (p := ⟨gb363, 1, none⟩) (Kd.R_far (p := ⟨gb363, 0, none⟩) (Kd.R_types HO352.out BK363.out (by decide)) (fun _ hk => hk.2) (.slice Ao136 t357.length co136)) (fun _ hk => hk.2) (.slice Ao141 t360.length co141)) (fun _ h_ => h_.1)))); (case side2 => exact (Kd.R_reads' HO352.out).2.1); (case side3 => refine (Kd.R_reads' (e := 98) (base := w.heap.size) (ok := fun k_ => (((True ∧ some k_ ≠ (.slice Ao121 t340.length co121 : Value).ownBlock) ∧ some k_ ≠ (.slice Ao123 t346.length co123 : Value).ownBlock) ∧ some k_ ≠ (.slice Ao141 t360.length co141 : Value).ownBlock)) (n := t353.length) (c := co132) ?_).2.2; exact (by refine ra (h := ?_); exact (Kd.R_mono (Kd.R_far (p := ⟨gb363, 1, none⟩) (Kd.R_far (p := ⟨gb363, 0, none⟩) (Kd.R_types HO355.out BK363.out (by decide)) (fun _ hk => hk.2) (.slice Ao136 t357.length co136)) (fun _ hk => hk.2) (.slice Ao141 t360.length co141)) (fun _ h_ => h_.1)))); (case side4 => exact (Kd.R_reads' HO355.out).2.1); (case side5 => refine (Kd.R_reads' (e := 65) (base := w.heap.size) (ok := fun k_ => (((True ∧ some k_ ≠ (.slice Ao120 t337.length co120 : Value).ownBlock) ∧ some k_ ≠ (.slice Ao122 t343.length co122 : Value).ownBlock) ∧ some k_ ≠ (.slice Ao128 t350.length co128 : Value).ownBlock)) (n := t357.length) (c := co136) ?_).2.2; exact (by refine ra (h := ?_); exact (Kd.R_mono (Kd.R_far (p := ⟨gb363, 1, none⟩) (Kd.R_far (p := ⟨gb363, 0, none⟩) (Kd.R_types HO359.out BK363.out (by decide)) (fun _ hk => hk.2) (.slice Ao136 t357.length co136)) (fun _ hk => hk.2) (.slice Ao141 t360.length co141)) (fun _ h_ => h_.1)))); (case side6 => exact (Kd.R_reads' HO359.out).2.1); (case side7 => refine (Kd.R_reads' (e := 98) (base := w.heap.size) (ok := fun k_ => (((True ∧ some k_ ≠ (.slice Ao121 t340.length co121 : Value).ownBlock) ∧ some k_ ≠ (.slice Ao123 t346.length co123 : Value).ownBlock) ∧ some k_ ≠ (.slice Ao132 t353.length co132 : Value).ownBlock)) (n := t360.length) (c := co141) ?_).2.2; exact (by refine ra (h := ?_); exact (Kd.R_mono (Kd.R_far (p := ⟨gb363, 1, none⟩) (Kd.R_far (p := ⟨gb363, 0, none⟩) (Kd.R_types HO362.out BK363.out (by decide)) (fun _ hk => hk.2) (.slice Ao136 t357.length co136)) (fun _ hk => hk.2) (.slice Ao141 t360.length co141)) (fun _ h_ => h_.1)))); (case side8 => exact (Kd.R_reads' HO362.out).2.1); rintro e w143 ⟨rfl, hb⟩; refine ⟨_, rfl, ?_⟩; replace HO339 := Aside0.mk (Kd.R_below (by refine ra (h := ?_); exact (Kd.R_mono (Kd.R_far (p := ⟨gb363, 1, none⟩) (Kd.R_far (p := ⟨gb363, 0, none⟩) (Kd.R_types HO339.out BK363.out (by decide)) (fun _ hk => hk.2) (.slice Ao136 t357.length co136)) (fun _ hk => hk.2) (.slice Ao141 t360.length co141)) (fun _ h_ => h_.1))) hb); replace HO342 := Aside0.mk (Kd.R_below (by refine ra (h := ?_); exact (Kd.R_mono (Kd.R_far (p := ⟨gb363, 1, none⟩) (Kd.R_far (p := ⟨gb363, 0, none⟩) (Kd.R_types HO342.out BK363.out (by decide)) (fun _ hk => hk.2) (.slice Ao136 t357.length co136)) (fun _ hk => hk.2) (.slice Ao141 t360.length co141)) (fun _ h_ => h_.1))) hb); replace HO345 := Aside0.mk (Kd.R_below (by refine ra (h := ?_); exact (Kd.R_mono (Kd.R_far (p := ⟨gb363, 1, none⟩) (Kd.R_far (p := ⟨gb363, 0, none⟩) (Kd.R_types HO345.out BK363.out (by decide)) (fun _ hk => hk.2) (.slice Ao136 t357.length co136)) (fun _ hk => hk.2) (.slice Ao141 t360.length co141)) (fun _ h_ => h_.1))) hb); replace HO348 := Aside0.mk (Kd.R_below (by refine ra (h := ?_); exact (Kd.R_mono (Kd.R_far (p := ⟨gb363, 1, none⟩) (Kd.R_far (p := ⟨gb363, 0, none⟩) (Kd.R_types HO348.out BK363.out (by decide)) (fun _ hk => hk.2) (.slice Ao136 t357.length co136)) (fun _ hk => hk.2) (.slice Ao141 t360.length co141)) (fun _ h_ => h_.1))) hb); replace HO352 := Aside0.mk (Kd.R_below (by refine ra (h := ?_); exact (Kd.R_mono (Kd.R_far (p := ⟨gb363, 1, none⟩) (Kd.R_far (p := ⟨gb363, 0, none⟩) (Kd.R_types HO352.out BK363.out (by decide)) (fun _ hk => hk.2) (.slice Ao136 t357.length co136)) (fun _ hk => hk.2) (.slice Ao141 t360.length co141)) (fun _ h_ => h_.1))) hb); replace HO355 := Aside0.mk (Kd.R_below (by refine ra (h := ?_); exact (Kd.R_mono (Kd.R_far (p := ⟨gb363, 1, none⟩) (Kd.R_far (p := ⟨gb363, 0, none⟩) (Kd.R_types HO355.out BK363.out (by decide)) (fun _ hk => hk.2) (.slice Ao136 t357.length co136)) (fun _ hk => hk.2) (.slice Ao141 t360.length co141)) (fun _ h_ => h_.1))) hb); replace HO359 := Aside0.mk (Kd.R_below (by refine ra (h := ?_); exact (Kd.R_mono (Kd.R_far (p := ⟨gb363, 1, none⟩) (Kd.R_far (p := ⟨gb363, 0, none⟩) (Kd.R_types HO359.out BK363.out (by decide)) (fun _ hk => hk.2) (.slice Ao136 t357.length co136)) (fun _ hk => hk.2) (.slice Ao141 t360.length co141)) (fun _ h_ => h_.1))) hb); replace HO362 := Aside0.mk (Kd.R_below (by refine ra (h := ?_); exact (Kd.R_mono (Kd.R_far (p := ⟨gb363, 1, none⟩) (Kd.R_far (p := ⟨gb363, 0, none⟩) (Kd.R_types HO362.out BK363.out (by decide)) (fun _ hk => hk.2) (.slice Ao136 t357.length co136)) (fun _ hk => hk.2) (.slice Ao141 t360.length co141)) (fun _ h_ => h_.1))) hb); replace BK333 := Aside0.mk (blk_below (g := gb333) (o := .cells #[.slice A0_0 l0_0.length c0_0, .slice A0_1 l0_1.length c0_1] 37 (0, 0)) (by refine bk (h := ?_); refine blk_far ?_ NB333_363.out _; refine bk (h := ?_); refine blk_far ?_ NB333_363.out _; refine bk (h := ?_); exact BK333.out) hb); replace BK334 := Aside0.mk (blk_below (g := gb334) (o := .cells #[.slice A1_0 l1_0.length c1_0, .slice A1_1 l1_1.length c1_1] 37 (0, 0)) (by refine bk (h := ?_); refine blk_far ?_ NB334_363.out _; refine bk (h := ?_); refine blk_far ?_ NB334_363.out _; refine bk (h := ?_); exact BK334.out) hb); replace BK356 := Aside0.mk (blk_below (g := gb356) (o := .cells #[.slice Ao128 t350.length co128, .slice Ao132 t353.length co132] 43 (0, 0)) (by refine bk (h := ?_); refine blk_far ?_ NB356_363.out _; refine bk (h := ?_); refine blk_far ?_ NB356_363.out _; refine bk (h := ?_); exact BK356.out) hb); replace BK363 := Aside0.mk (blk_below (g := gb363) (o := .cells #[.slice Ao136 t357.length co136, .slice Ao141 t360.length co141] 43 (0, 0)) (by refine bk (h := ?_); refine blk_put (cs := #[.slice Ao136 t357.length co136, .slice none 0 0]) ?_ 1 _ rfl; refine bk (h := ?_); refine blk_put (cs := #[.slice none 0 0, .slice none 0 0]) ?_ 0 _ rfl; refine bk (h := ?_); exact BK363.out) hb); replace HB := bs hb; (try clear hb); (try clear hb2); (try clear hk); (try clear hi)))
            replace HO339 := Aside0.mk (Kd.R_drew HO339.out)
            replace HO342 := Aside0.mk (Kd.R_drew HO342.out)
            replace HO345 := Aside0.mk (Kd.R_drew HO345.out)
            replace HO348 := Aside0.mk (Kd.R_drew HO348.out)
            replace HO352 := Aside0.mk (Kd.R_drew HO352.out)
            replace HO355 := Aside0.mk (Kd.R_drew HO355.out)
            replace HO359 := Aside0.mk (Kd.R_drew HO359.out)
            replace HO362 := Aside0.mk (Kd.R_drew HO362.out)
            replace BK333 := Aside0.mk (blk_drew BK333.out)
            replace BK334 := Aside0.mk (blk_drew BK334.out)
            replace BK356 := Aside0.mk (blk_drew BK356.out)
            replace BK363 := Aside0.mk (blk_drew BK363.out)
            replace HB := Aside0.mk (below_drew1 HB.out)
            refine start_ (n := 5) (S := fun w' => w'.cell? ⟨gb356, 0, none⟩ = some (.slice Ao128 t350.length co128) ∧ w'.cell? ⟨gb356, 1, none⟩ = some (.slice Ao132 t353.length co132) ∧ w'.cell? ⟨gb333, 0, none⟩ = some (.slice A0_0 l0_0.length c0_0) ∧ w'.cell? ⟨gb333, 1, none⟩ = some (.slice A0_1 l0_1.length c0_1)) (ds := []) #[false, false, false, false, false] (by kernel_rfl) rfl rfl ⟨(blk_cell BK356.out 0).trans rfl, (blk_cell BK356.out 1).trans rfl, (blk_cell BK333.out 0).trans rfl, (blk_cell BK333.out 1).trans rfl⟩ (fun hHeld => ?_)
            generalize w143.drew = w144 at HO339 HO342 HO345 HO348 HO352 HO355 HO359 HO362 BK333 BK334 BK356 BK363 HB hHeld ⊢
            refine take_ (i := 0) (N := some 35) (v := ?_) (a' := ?_) #[true, false, false, false, false] rfl rfl (by kernel_rfl) (fun _ _ _ h => h) (Or.inl ⟨by rfl, ?_⟩) hHeld ?_ ?_
            rotate_left
            · rintro w' ⟨s0, s1, s2, s3⟩
              go_simp
              with_reducible rfl
            rotate_left
            · simp only [Act.put, List.setIfInBounds_toArray, List.set_cons_zero, List.set_cons_succ, i64_w, i32_w]
              rfl
            refine take_ (i := 1) (N := some 36) (v := ?_) (a' := ?_) #[true, true, false, false, false] rfl rfl (by kernel_rfl) (fun _ _ _ h => h) (Or.inl ⟨by rfl, ?_⟩) hHeld ?_ ?_
            rotate_left
            · rintro w' ⟨s0, s1, s2, s3⟩
              go_simp
              with_reducible rfl
            rotate_left
            · simp only [Act.put, List.setIfInBounds_toArray, List.set_cons_zero, List.set_cons_succ, i64_w, i32_w]
              rfl
            refine one_ (i := 2) (N := some 37) #[true, true, true, false, false] rfl rfl (by kernel_rfl) (by decide) (fun K hK => ?_)
            refine goes_ Try.func19 (by kernel_rfl) rfl #[.agg #[.slice _ l0_0.length c0_0, .slice _ l0_1.length c0_1]] (by rfl) rfl rfl (by (try simp only [List.map_toArray, List.map_cons, List.map_nil]); first | done | rfl | (simp only [List.length_drop, List.length_take]; rfl)) ?_
            with_reducible refine (laws_toRun.calls k _ _ l0_0 _ _ l0_1 t365 t368 _ ?side1 ?side2 ?side3 ?side4 A60.out).mono ?_
            (case side1 => exact sd HR0_0)
            (case side2 => exact HC0_0.out)
            (case side3 => exact sd HR0_1)
            (case side4 => exact HC0_1.out)
            rintro e w145 ⟨v366, v369, rfl, ho0, ho1, hb⟩
            refine ⟨_, rfl, ?_⟩
            have HO367 := Aside0.mk (Kd.R_lower (Kd.R_new' (Kd.R_new' (Kd.R_new' (Kd.R_new' ho0 (Kd.R_lt (ra (h := HO339.out)))) (Kd.R_lt (ra (h := HO345.out)))) (Kd.R_lt (ra (h := HO352.out)))) (Kd.R_lt (ra (h := HO359.out)))) (below_size bw))
            have HO370 := Aside0.mk (Kd.R_lower (Kd.R_new' (Kd.R_new' (Kd.R_new' (Kd.R_new' ho1 (Kd.R_lt (ra (h := HO342.out)))) (Kd.R_lt (ra (h := HO348.out)))) (Kd.R_lt (ra (h := HO355.out)))) (Kd.R_lt (ra (h := HO362.out)))) (below_size bw))
            replace HO339 := Aside0.mk (Kd.R_elder' (ra (h := HO339.out)) (Kd.R_base ho0) hb)
            replace HO342 := Aside0.mk (Kd.R_elder' (ra (h := HO342.out)) (Kd.R_base ho1) hb)
            replace HO345 := Aside0.mk (Kd.R_elder' (ra (h := HO345.out)) (Kd.R_base ho0) hb)
            replace HO348 := Aside0.mk (Kd.R_elder' (ra (h := HO348.out)) (Kd.R_base ho1) hb)
            replace HO352 := Aside0.mk (Kd.R_elder' (ra (h := HO352.out)) (Kd.R_base ho0) hb)
            replace HO355 := Aside0.mk (Kd.R_elder' (ra (h := HO355.out)) (Kd.R_base ho1) hb)
            replace HO359 := Aside0.mk (Kd.R_elder' (ra (h := HO359.out)) (Kd.R_base ho0) hb)
            replace HO362 := Aside0.mk (Kd.R_elder' (ra (h := HO362.out)) (Kd.R_base ho1) hb)
            replace BK333 := bb BK333 hb
            replace BK334 := bb BK334 hb
            replace BK356 := bb BK356 hb
            replace BK363 := bb BK363 hb
            replace HB := bs hb
            (try clear hb)
            (try clear hb2)
            (try clear hk)
            (try clear hi)
            (try clear ho0)
            (try clear ho1)
            obtain ⟨Ao146, co146, eo146⟩ := Kd.R_slice HO367.out
            (first | subst eo146 | (injection eo146 with f1_ f2_ f3_; have f4_ := f1_.symm; have f5_ := f3_.symm; clear f1_ f2_ f3_; subst f4_; subst f5_))
            obtain ⟨Ao147, co147, eo147⟩ := Kd.R_slice HO370.out
            (first | subst eo147 | (injection eo147 with f1_ f2_ f3_; have f4_ := f1_.symm; have f5_ := f3_.symm; clear f1_ f2_ f3_; subst f4_; subst f5_))
            refine hK.out _ _ ⟨(blk_cell BK356.out 0).trans rfl, (blk_cell BK356.out 1).trans rfl, (blk_cell BK333.out 0).trans rfl, (blk_cell BK333.out 1).trans rfl⟩ (fun hHeld => ?_)
            clear hK K
            refine norm_ (a' := ?_) ?_ ?_
            rotate_left
            · show Act.put _ (some 37) _ = _
              simp only [Act.put, List.setIfInBounds_toArray, List.set_cons_zero, List.set_cons_succ, i64_w, i32_w]
              rfl
            refine one_ (i := 3) (N := some 38) #[true, true, true, true, false] rfl rfl (by kernel_rfl) (by decide) (fun K hK => ?_)
            refine goes_ Try.func21 (by kernel_rfl) rfl #[.agg #[.slice _ t350.length co128, .slice _ t353.length co132], .agg #[.slice _ t365.length co146, .slice _ t368.length co147]] (by rfl) rfl rfl (by (try simp only [List.map_toArray, List.map_cons, List.map_nil]); first | done | rfl | (simp only [List.length_drop, List.length_take]; rfl)) ?_
            with_reducible refine (laws_eqRun.calls k _ _ t350 _ _ t353 _ _ t365 _ _ t368 true _ ?side1 ?side2 ?side3 ?side4 ?side5 ?side6 ?side7 ?side8 A61.out).mono ?_
            (case side1 => exact se HO352)
            (case side2 => exact (Kd.R_reads' HO352.out).2.1)
            (case side3 => exact se HO355)
            (case side4 => exact (Kd.R_reads' HO355.out).2.1)
            (case side5 => exact se HO367)
            (case side6 => exact (Kd.R_reads' HO367.out).2.1)
            (case side7 => exact se HO370)
            (case side8 => exact (Kd.R_reads' HO370.out).2.1)
            rintro e w148 ⟨rfl, hb⟩
            refine ⟨_, rfl, ?_⟩
            replace HO339 := Aside0.mk (Kd.R_below (ra (h := HO339.out)) hb)
            replace HO342 := Aside0.mk (Kd.R_below (ra (h := HO342.out)) hb)
            replace HO345 := Aside0.mk (Kd.R_below (ra (h := HO345.out)) hb)
            replace HO348 := Aside0.mk (Kd.R_below (ra (h := HO348.out)) hb)
            replace HO352 := Aside0.mk (Kd.R_below (ra (h := HO352.out)) hb)
            replace HO355 := Aside0.mk (Kd.R_below (ra (h := HO355.out)) hb)
            replace HO359 := Aside0.mk (Kd.R_below (ra (h := HO359.out)) hb)
            replace HO362 := Aside0.mk (Kd.R_below (ra (h := HO362.out)) hb)
            replace HO367 := Aside0.mk (Kd.R_below (ra (h := HO367.out)) hb)
            replace HO370 := Aside0.mk (Kd.R_below (ra (h := HO370.out)) hb)
            replace BK333 := bb BK333 hb
            replace BK334 := bb BK334 hb
            replace BK356 := bb BK356 hb
            replace BK363 := bb BK363 hb
            replace HB := bs hb
            (try clear hb)
            (try clear hb2)
            (try clear hk)
            (try clear hi)
            refine hK.out _ _ ⟨(blk_cell BK356.out 0).trans rfl, (blk_cell BK356.out 1).trans rfl, (blk_cell BK333.out 0).trans rfl, (blk_cell BK333.out 1).trans rfl⟩ (fun hHeld => ?_)
            clear hK K
            refine norm_ (a' := ?_) ?_ ?_
            rotate_left
            · show Act.put _ (some 38) _ = _
              simp only [Act.put, List.setIfInBounds_toArray, List.set_cons_zero, List.set_cons_succ, i64_w, i32_w]
              rfl
            refine pure_ (i := 4) (N := some 39) (v := ?_) (a' := ?_) #[true, true, true, true, true] rfl rfl (by kernel_rfl) (fun _ _ _ h => h) (Or.inl ⟨by rfl, ?_⟩) ?_ ?_
            rotate_left
            · intro w'
              go_simp
              with_reducible rfl
            rotate_left
            · simp only [Act.put, List.setIfInBounds_toArray, List.set_cons_zero, List.set_cons_succ, i64_w, i32_w]
              rfl
            refine done_ (by kernel_rfl) ?_
            try go_wp2
            replace HO339 := Aside0.mk (Kd.R_drew HO339.out)
            replace HO342 := Aside0.mk (Kd.R_drew HO342.out)
            replace HO345 := Aside0.mk (Kd.R_drew HO345.out)
            replace HO348 := Aside0.mk (Kd.R_drew HO348.out)
            replace HO352 := Aside0.mk (Kd.R_drew HO352.out)
            replace HO355 := Aside0.mk (Kd.R_drew HO355.out)
            replace HO359 := Aside0.mk (Kd.R_drew HO359.out)
            replace HO362 := Aside0.mk (Kd.R_drew HO362.out)
            replace HO367 := Aside0.mk (Kd.R_drew HO367.out)
            replace HO370 := Aside0.mk (Kd.R_drew HO370.out)
            replace BK333 := Aside0.mk (blk_drew BK333.out)
            replace BK334 := Aside0.mk (blk_drew BK334.out)
            replace BK356 := Aside0.mk (blk_drew BK356.out)
            replace BK363 := Aside0.mk (blk_drew BK363.out)
            replace HB := Aside0.mk (below_drew1 HB.out)
            refine start_ (n := 5) (S := fun w' => w'.cell? ⟨gb363, 0, none⟩ = some (.slice Ao136 t357.length co136) ∧ w'.cell? ⟨gb363, 1, none⟩ = some (.slice Ao141 t360.length co141) ∧ w'.cell? ⟨gb334, 0, none⟩ = some (.slice A1_0 l1_0.length c1_0) ∧ w'.cell? ⟨gb334, 1, none⟩ = some (.slice A1_1 l1_1.length c1_1)) (ds := []) #[false, false, false, false, false] (by kernel_rfl) rfl rfl ⟨(blk_cell BK363.out 0).trans rfl, (blk_cell BK363.out 1).trans rfl, (blk_cell BK334.out 0).trans rfl, (blk_cell BK334.out 1).trans rfl⟩ (fun hHeld => ?_)
            generalize w148.drew = w149 at HO339 HO342 HO345 HO348 HO352 HO355 HO359 HO362 HO367 HO370 BK333 BK334 BK356 BK363 HB hHeld ⊢
            refine take_ (i := 0) (N := some 40) (v := ?_) (a' := ?_) #[true, false, false, false, false] rfl rfl (by kernel_rfl) (fun _ _ _ h => h) (Or.inl ⟨by rfl, ?_⟩) hHeld ?_ ?_
            rotate_left
            · rintro w' ⟨s0, s1, s2, s3⟩
              go_simp
              with_reducible rfl
            rotate_left
            · simp only [Act.put, List.setIfInBounds_toArray, List.set_cons_zero, List.set_cons_succ, i64_w, i32_w]
              rfl
            refine take_ (i := 1) (N := some 41) (v := ?_) (a' := ?_) #[true, true, false, false, false] rfl rfl (by kernel_rfl) (fun _ _ _ h => h) (Or.inl ⟨by rfl, ?_⟩) hHeld ?_ ?_
            rotate_left
            · rintro w' ⟨s0, s1, s2, s3⟩
              go_simp
              with_reducible rfl
            rotate_left
            · simp only [Act.put, List.setIfInBounds_toArray, List.set_cons_zero, List.set_cons_succ, i64_w, i32_w]
              rfl
            refine one_ (i := 2) (N := some 42) #[true, true, true, false, false] rfl rfl (by kernel_rfl) (by decide) (fun K hK => ?_)
            refine goes_ Try.func19 (by kernel_rfl) rfl #[.agg #[.slice _ l1_0.length c1_0, .slice _ l1_1.length c1_1]] (by rfl) rfl rfl (by (try simp only [List.map_toArray, List.map_cons, List.map_nil]); first | done | rfl | (simp only [List.length_drop, List.length_take]; rfl)) ?_
            with_reducible refine (laws_toRun.calls k _ _ l1_0 _ _ l1_1 t372 t375 _ ?side1 ?side2 ?side3 ?side4 A63.out).mono ?_
            (case side1 => exact sd HR1_0)
            (case side2 => exact HC1_0.out)
            (case side3 => exact sd HR1_1)
            (case side4 => exact HC1_1.out)
            rintro e w150 ⟨v373, v376, rfl, ho0, ho1, hb⟩
            refine ⟨_, rfl, ?_⟩
            have HO374 := Aside0.mk (Kd.R_lower (Kd.R_new' (Kd.R_new' (Kd.R_new' (Kd.R_new' (Kd.R_new' ho0 (Kd.R_lt (ra (h := HO339.out)))) (Kd.R_lt (ra (h := HO345.out)))) (Kd.R_lt (ra (h := HO352.out)))) (Kd.R_lt (ra (h := HO359.out)))) (Kd.R_lt (ra (h := HO367.out)))) (below_size bw))
            have HO377 := Aside0.mk (Kd.R_lower (Kd.R_new' (Kd.R_new' (Kd.R_new' (Kd.R_new' (Kd.R_new' ho1 (Kd.R_lt (ra (h := HO342.out)))) (Kd.R_lt (ra (h := HO348.out)))) (Kd.R_lt (ra (h := HO355.out)))) (Kd.R_lt (ra (h := HO362.out)))) (Kd.R_lt (ra (h := HO370.out)))) (below_size bw))
            replace HO339 := Aside0.mk (Kd.R_elder' (ra (h := HO339.out)) (Kd.R_base ho0) hb)
            replace HO342 := Aside0.mk (Kd.R_elder' (ra (h := HO342.out)) (Kd.R_base ho1) hb)
            replace HO345 := Aside0.mk (Kd.R_elder' (ra (h := HO345.out)) (Kd.R_base ho0) hb)
            replace HO348 := Aside0.mk (Kd.R_elder' (ra (h := HO348.out)) (Kd.R_base ho1) hb)
            replace HO352 := Aside0.mk (Kd.R_elder' (ra (h := HO352.out)) (Kd.R_base ho0) hb)
            replace HO355 := Aside0.mk (Kd.R_elder' (ra (h := HO355.out)) (Kd.R_base ho1) hb)
            replace HO359 := Aside0.mk (Kd.R_elder' (ra (h := HO359.out)) (Kd.R_base ho0) hb)
            replace HO362 := Aside0.mk (Kd.R_elder' (ra (h := HO362.out)) (Kd.R_base ho1) hb)
            replace HO367 := Aside0.mk (Kd.R_elder' (ra (h := HO367.out)) (Kd.R_base ho0) hb)
            replace HO370 := Aside0.mk (Kd.R_elder' (ra (h := HO370.out)) (Kd.R_base ho1) hb)
            replace BK333 := bb BK333 hb
            replace BK334 := bb BK334 hb
            replace BK356 := bb BK356 hb
            replace BK363 := bb BK363 hb
            replace HB := bs hb
            (try clear hb)
            (try clear hb2)
            (try clear hk)
            (try clear hi)
            (try clear ho0)
            (try clear ho1)
            obtain ⟨Ao151, co151, eo151⟩ := Kd.R_slice HO374.out
            (first | subst eo151 | (injection eo151 with f1_ f2_ f3_; have f4_ := f1_.symm; have f5_ := f3_.symm; clear f1_ f2_ f3_; subst f4_; subst f5_))
            obtain ⟨Ao152, co152, eo152⟩ := Kd.R_slice HO377.out
            (first | subst eo152 | (injection eo152 with f1_ f2_ f3_; have f4_ := f1_.symm; have f5_ := f3_.symm; clear f1_ f2_ f3_; subst f4_; subst f5_))
            refine hK.out _ _ ⟨(blk_cell BK363.out 0).trans rfl, (blk_cell BK363.out 1).trans rfl, (blk_cell BK334.out 0).trans rfl, (blk_cell BK334.out 1).trans rfl⟩ (fun hHeld => ?_)
            clear hK K
            refine norm_ (a' := ?_) ?_ ?_
            rotate_left
            · show Act.put _ (some 42) _ = _
              simp only [Act.put, List.setIfInBounds_toArray, List.set_cons_zero, List.set_cons_succ, i64_w, i32_w]
              rfl
            refine one_ (i := 3) (N := some 43) #[true, true, true, true, false] rfl rfl (by kernel_rfl) (by decide) (fun K hK => ?_)
            refine goes_ Try.func21 (by kernel_rfl) rfl #[.agg #[.slice _ t357.length co136, .slice _ t360.length co141], .agg #[.slice _ t372.length co151, .slice _ t375.length co152]] (by rfl) rfl rfl (by (try simp only [List.map_toArray, List.map_cons, List.map_nil]); first | done | rfl | (simp only [List.length_drop, List.length_take]; rfl)) ?_
            with_reducible refine (laws_eqRun.calls k _ _ t357 _ _ t360 _ _ t372 _ _ t375 false _ ?side1 ?side2 ?side3 ?side4 ?side5 ?side6 ?side7 ?side8 A64.out).mono ?_
            (case side1 => exact se HO359)
            (case side2 => exact (Kd.R_reads' HO359.out).2.1)
            (case side3 => exact se HO362)
            (case side4 => exact (Kd.R_reads' HO362.out).2.1)
            (case side5 => exact se HO374)
            (case side6 => exact (Kd.R_reads' HO374.out).2.1)
            (case side7 => exact se HO377)
            (case side8 => exact (Kd.R_reads' HO377.out).2.1)
            rintro e w153 ⟨rfl, hb⟩
            refine ⟨_, rfl, ?_⟩
            replace HO339 := Aside0.mk (Kd.R_below (ra (h := HO339.out)) hb)
            replace HO342 := Aside0.mk (Kd.R_below (ra (h := HO342.out)) hb)
            replace HO345 := Aside0.mk (Kd.R_below (ra (h := HO345.out)) hb)
            replace HO348 := Aside0.mk (Kd.R_below (ra (h := HO348.out)) hb)
            replace HO352 := Aside0.mk (Kd.R_below (ra (h := HO352.out)) hb)
            replace HO355 := Aside0.mk (Kd.R_below (ra (h := HO355.out)) hb)
            replace HO359 := Aside0.mk (Kd.R_below (ra (h := HO359.out)) hb)
            replace HO362 := Aside0.mk (Kd.R_below (ra (h := HO362.out)) hb)
            replace HO367 := Aside0.mk (Kd.R_below (ra (h := HO367.out)) hb)
            replace HO370 := Aside0.mk (Kd.R_below (ra (h := HO370.out)) hb)
            replace HO374 := Aside0.mk (Kd.R_below (ra (h := HO374.out)) hb)
            replace HO377 := Aside0.mk (Kd.R_below (ra (h := HO377.out)) hb)
            replace BK333 := bb BK333 hb
            replace BK334 := bb BK334 hb
            replace BK356 := bb BK356 hb
            replace BK363 := bb BK363 hb
            replace HB := bs hb
            (try clear hb)
            (try clear hb2)
            (try clear hk)
            (try clear hi)
            refine hK.out _ _ ⟨(blk_cell BK363.out 0).trans rfl, (blk_cell BK363.out 1).trans rfl, (blk_cell BK334.out 0).trans rfl, (blk_cell BK334.out 1).trans rfl⟩ (fun hHeld => ?_)
            clear hK K
            refine norm_ (a' := ?_) ?_ ?_
            rotate_left
            · show Act.put _ (some 43) _ = _
              simp only [Act.put, List.setIfInBounds_toArray, List.set_cons_zero, List.set_cons_succ, i64_w, i32_w]
              rfl
            refine pure_ (i := 4) (N := some 44) (v := ?_) (a' := ?_) #[true, true, true, true, true] rfl rfl (by kernel_rfl) (fun _ _ _ h => h) (Or.inl ⟨by rfl, ?_⟩) ?_ ?_
            rotate_left
            · intro w'
              go_simp
              with_reducible rfl
            rotate_left
            · simp only [Act.put, List.setIfInBounds_toArray, List.set_cons_zero, List.set_cons_succ, i64_w, i32_w]
              rfl
            refine done_ (by kernel_rfl) ?_
            try go_wp2
            go_ret
            exact ⟨er, bw⟩
        · replace c62 := Bool.eq_false_iff.mpr c62
          subst c62
          rw [if_neg nf] at H
          obtain rfl := Option.some.inj H
          go_enter Try.func4, Try.ntmps4
          try go_wp2_with (first | ((with_reducible refine gate_dst (N := 2) rfl ?_); refine bx #[.slice A0_0 l0_0.length c0_0, .slice A0_1 l0_1.length c0_1] 37 ?_; intro gb333 hg w154 hbox hb; have BK333 := Aside0.mk hbox; have GW333 := bg hg; have GE333 := bg hg; replace HB := bs hb; clear hb hbox hg) | ((with_reducible refine gate_dst (N := 3) rfl ?_); refine bx #[.slice A1_0 l1_0.length c1_0, .slice A1_1 l1_1.length c1_1] 37 ?_; intro gb334 hg w155 hbox hb; have BK334 := Aside0.mk hbox; have GW334 := bg hg; have GE334 := bg hg; have NB333_334 := bl BK333 hg; have NB334_333 := bv BK333 hg; replace BK333 := bb BK333 hb; replace HB := bs hb; clear hb hbox hg; have hnb156 := NB333_334.out; have hnc156 := NB334_333.out; obtain ⟨z157_0, z157_1, y157_0, y157_1⟩ := bq2 BK333) | ((with_reducible refine gate_callee (f := 17) rfl ?_); refine gl (some 12) Try.func17 #[.agg #[.slice A0_0 l0_0.length c0_0, .slice A0_1 l0_1.length c0_1], .int .i64 1048576] ?_; (with_reducible refine (laws_szRun.calls k _ _ l0_0 _ _ l0_1 1048576 t335 _ ?side1 ?side2 ?side3 ?side4 A3.out).mono ?_); (case side1 => exact sd HR0_0); (case side2 => exact HC0_0.out); (case side3 => exact sd HR0_1); (case side4 => exact HC0_1.out); rintro e w158 ⟨rfl, hb⟩; refine ⟨_, rfl, ?_⟩; replace BK333 := bb BK333 hb; replace BK334 := bb BK334 hb; replace HB := bs hb; (try clear hb); (try clear hb2); (try clear hk); (try clear hi); obtain ⟨z159_0, z159_1, y159_0, y159_1⟩ := bq2 BK334) | ((with_reducible refine gate_callee (f := 17) rfl ?_); refine gl (some 17) Try.func17 #[.agg #[.slice A1_0 l1_0.length c1_0, .slice A1_1 l1_1.length c1_1], .int .i64 t335] ?_; (with_reducible refine (laws_szRun.calls k _ _ l1_0 _ _ l1_1 t335 t336 _ ?side1 ?side2 ?side3 ?side4 A10.out).mono ?_); (case side1 => exact sd HR1_0); (case side2 => exact HC1_0.out); (case side3 => exact sd HR1_1); (case side4 => exact HC1_1.out); rintro e w160 ⟨rfl, hb⟩; refine ⟨_, rfl, ?_⟩; replace BK333 := bb BK333 hb; replace BK334 := bb BK334 hb; replace HB := bs hb; (try clear hb); (try clear hb2); (try clear hk); (try clear hi)))
          replace BK333 := Aside0.mk (blk_drew BK333.out)
          replace BK334 := Aside0.mk (blk_drew BK334.out)
          replace HB := Aside0.mk (below_drew1 HB.out)
          refine start_ (n := 6) (S := fun w' => w'.cell? ⟨gb333, 0, none⟩ = some (.slice A0_0 l0_0.length c0_0) ∧ w'.cell? ⟨gb333, 1, none⟩ = some (.slice A0_1 l0_1.length c0_1) ∧ w'.cell? ⟨gb334, 0, none⟩ = some (.slice A1_0 l1_0.length c1_0) ∧ w'.cell? ⟨gb334, 1, none⟩ = some (.slice A1_1 l1_1.length c1_1)) (ds := []) #[false, false, false, false, false, false] (by kernel_rfl) rfl rfl ⟨(blk_cell BK333.out 0).trans rfl, (blk_cell BK333.out 1).trans rfl, (blk_cell BK334.out 0).trans rfl, (blk_cell BK334.out 1).trans rfl⟩ (fun hHeld => ?_)
          generalize w160.drew = w161 at BK333 BK334 HB hHeld ⊢
          refine take_ (i := 0) (N := some 20) (v := ?_) (a' := ?_) #[true, false, false, false, false, false] rfl rfl (by kernel_rfl) (fun _ _ _ h => h) (Or.inl ⟨by rfl, ?_⟩) hHeld ?_ ?_
          rotate_left
          · rintro w' ⟨s0, s1, s2, s3⟩
            go_simp
            with_reducible rfl
          rotate_left
          · simp only [Act.put, List.setIfInBounds_toArray, List.set_cons_zero, List.set_cons_succ, i64_w, i32_w]
            rfl
          refine take_ (i := 2) (N := some 22) (v := ?_) (a' := ?_) #[true, false, true, false, false, false] rfl rfl (by kernel_rfl) (fun _ _ _ h => h) (Or.inl ⟨by rfl, ?_⟩) hHeld ?_ ?_
          rotate_left
          · rintro w' ⟨s0, s1, s2, s3⟩
            go_simp
            with_reducible rfl
          rotate_left
          · simp only [Act.put, List.setIfInBounds_toArray, List.set_cons_zero, List.set_cons_succ, i64_w, i32_w]
            rfl
          refine one_ (i := 1) (N := some 21) #[true, true, true, false, false, false] rfl rfl (by kernel_rfl) (by decide) (fun K hK => ?_)
          refine goes_ Try.func19 (by kernel_rfl) rfl #[.agg #[.slice _ l0_0.length c0_0, .slice _ l0_1.length c0_1]] (by rfl) rfl rfl (by (try simp only [List.map_toArray, List.map_cons, List.map_nil]); first | done | rfl | (simp only [List.length_drop, List.length_take]; rfl)) ?_
          with_reducible refine (laws_toRun.calls k _ _ l0_0 _ _ l0_1 t337 t340 _ ?side1 ?side2 ?side3 ?side4 A19.out).mono ?_
          (case side1 => exact sd HR0_0)
          (case side2 => exact HC0_0.out)
          (case side3 => exact sd HR0_1)
          (case side4 => exact HC0_1.out)
          rintro e w162 ⟨v338, v341, rfl, ho0, ho1, hb⟩
          refine ⟨_, rfl, ?_⟩
          have HO339 := Aside0.mk (Kd.R_lower ho0 (below_size bw))
          have HO342 := Aside0.mk (Kd.R_lower ho1 (below_size bw))
          replace BK333 := bb BK333 hb
          replace BK334 := bb BK334 hb
          replace HB := bs hb
          (try clear hb)
          (try clear hb2)
          (try clear hk)
          (try clear hi)
          (try clear ho0)
          (try clear ho1)
          refine hK.out _ _ ⟨(blk_cell BK333.out 0).trans rfl, (blk_cell BK333.out 1).trans rfl, (blk_cell BK334.out 0).trans rfl, (blk_cell BK334.out 1).trans rfl⟩ (fun hHeld => ?_)
          clear hK K
          refine norm_ (a' := ?_) ?_ ?_
          rotate_left
          · show Act.put _ (some 21) _ = _
            simp only [Act.put, List.setIfInBounds_toArray, List.set_cons_zero, List.set_cons_succ, i64_w, i32_w]
            rfl
          refine one_ (i := 3) (N := some 23) #[true, true, true, true, false, false] rfl rfl (by kernel_rfl) (by decide) (fun K hK => ?_)
          refine goes_ Try.func19 (by kernel_rfl) rfl #[.agg #[.slice _ l1_0.length c1_0, .slice _ l1_1.length c1_1]] (by rfl) rfl rfl (by (try simp only [List.map_toArray, List.map_cons, List.map_nil]); first | done | rfl | (simp only [List.length_drop, List.length_take]; rfl)) ?_
          with_reducible refine (laws_toRun.calls k _ _ l1_0 _ _ l1_1 t343 t346 _ ?side1 ?side2 ?side3 ?side4 A20.out).mono ?_
          (case side1 => exact sd HR1_0)
          (case side2 => exact HC1_0.out)
          (case side3 => exact sd HR1_1)
          (case side4 => exact HC1_1.out)
          rintro e w163 ⟨v344, v347, rfl, ho0, ho1, hb⟩
          refine ⟨_, rfl, ?_⟩
          have HO345 := Aside0.mk (Kd.R_lower (Kd.R_new' ho0 (Kd.R_lt (ra (h := HO339.out)))) (below_size bw))
          have HO348 := Aside0.mk (Kd.R_lower (Kd.R_new' ho1 (Kd.R_lt (ra (h := HO342.out)))) (below_size bw))
          replace HO339 := Aside0.mk (Kd.R_elder' (ra (h := HO339.out)) (Kd.R_base ho0) hb)
          replace HO342 := Aside0.mk (Kd.R_elder' (ra (h := HO342.out)) (Kd.R_base ho1) hb)
          replace BK333 := bb BK333 hb
          replace BK334 := bb BK334 hb
          replace HB := bs hb
          (try clear hb)
          (try clear hb2)
          (try clear hk)
          (try clear hi)
          (try clear ho0)
          (try clear ho1)
          obtain ⟨Ao164, co164, eo164⟩ := Kd.R_slice HO339.out
          (first | subst eo164 | (injection eo164 with f1_ f2_ f3_; have f4_ := f1_.symm; have f5_ := f3_.symm; clear f1_ f2_ f3_; subst f4_; subst f5_))
          obtain ⟨Ao165, co165, eo165⟩ := Kd.R_slice HO342.out
          (first | subst eo165 | (injection eo165 with f1_ f2_ f3_; have f4_ := f1_.symm; have f5_ := f3_.symm; clear f1_ f2_ f3_; subst f4_; subst f5_))
          obtain ⟨Ao166, co166, eo166⟩ := Kd.R_slice HO345.out
          (first | subst eo166 | (injection eo166 with f1_ f2_ f3_; have f4_ := f1_.symm; have f5_ := f3_.symm; clear f1_ f2_ f3_; subst f4_; subst f5_))
          obtain ⟨Ao167, co167, eo167⟩ := Kd.R_slice HO348.out
          (first | subst eo167 | (injection eo167 with f1_ f2_ f3_; have f4_ := f1_.symm; have f5_ := f3_.symm; clear f1_ f2_ f3_; subst f4_; subst f5_))
          refine hK.out _ _ ⟨(blk_cell BK333.out 0).trans rfl, (blk_cell BK333.out 1).trans rfl, (blk_cell BK334.out 0).trans rfl, (blk_cell BK334.out 1).trans rfl⟩ (fun hHeld => ?_)
          clear hK K
          refine norm_ (a' := ?_) ?_ ?_
          rotate_left
          · show Act.put _ (some 23) _ = _
            simp only [Act.put, List.setIfInBounds_toArray, List.set_cons_zero, List.set_cons_succ, i64_w, i32_w]
            rfl
          refine one_ (i := 4) (N := some 24) #[true, true, true, true, true, false] rfl rfl (by kernel_rfl) (by decide) (fun K hK => ?_)
          refine goes_ Try.func18 (by kernel_rfl) rfl #[.agg #[.slice _ t337.length co164, .slice _ t340.length co165], .agg #[.slice _ t343.length co166, .slice _ t346.length co167]] (by rfl) rfl rfl (by (try simp only [List.map_toArray, List.map_cons, List.map_nil]); first | done | rfl | (simp only [List.length_drop, List.length_take]; rfl)) ?_
          with_reducible refine (spec_SameRun.calls k _ _ t337 _ _ t340 _ _ t343 _ _ t346 t349 _ ?side1 ?side2 ?side3 ?side4 ?side5 ?side6 ?side7 ?side8 A21.out).mono ?_
          (case side1 => exact se HO339)
          (case side2 => exact (Kd.R_reads' HO339.out).2.1)
          (case side3 => exact se HO342)
          (case side4 => exact (Kd.R_reads' HO342.out).2.1)
          (case side5 => exact se HO345)
          (case side6 => exact (Kd.R_reads' HO345.out).2.1)
          (case side7 => exact se HO348)
          (case side8 => exact (Kd.R_reads' HO348.out).2.1)
          rintro e w168 ⟨rfl, hb⟩
          refine ⟨_, rfl, ?_⟩
          replace HO339 := Aside0.mk (Kd.R_below (ra (h := HO339.out)) hb)
          replace HO342 := Aside0.mk (Kd.R_below (ra (h := HO342.out)) hb)
          replace HO345 := Aside0.mk (Kd.R_below (ra (h := HO345.out)) hb)
          replace HO348 := Aside0.mk (Kd.R_below (ra (h := HO348.out)) hb)
          replace BK333 := bb BK333 hb
          replace BK334 := bb BK334 hb
          replace HB := bs hb
          (try clear hb)
          (try clear hb2)
          (try clear hk)
          (try clear hi)
          refine hK.out _ _ ⟨(blk_cell BK333.out 0).trans rfl, (blk_cell BK333.out 1).trans rfl, (blk_cell BK334.out 0).trans rfl, (blk_cell BK334.out 1).trans rfl⟩ (fun hHeld => ?_)
          clear hK K
          refine norm_ (a' := ?_) ?_ ?_
          rotate_left
          · show Act.put _ (some 24) _ = _
            simp only [Act.put, List.setIfInBounds_toArray, List.set_cons_zero, List.set_cons_succ, i64_w, i32_w]
            rfl
          refine pure_ (i := 5) (N := some 6) (v := ?_) (a' := ?_) #[true, true, true, true, true, true] rfl rfl (by kernel_rfl) (fun _ _ _ h => h) (Or.inl ⟨by rfl, ?_⟩) ?_ ?_
          rotate_left
          · intro w'
            go_simp
            with_reducible rfl
          rotate_left
          · simp only [Act.put, List.setIfInBounds_toArray, List.set_cons_zero, List.set_cons_succ, i64_w, i32_w]
            rfl
          refine done_ (by kernel_rfl) ?_
          obtain ⟨z169_0, z169_1, y169_0, y169_1⟩ := bq2 BK333
          try go_wp2_with (first | ((with_reducible refine gate_callee (f := 19) rfl ?_); refine gl (some 26) Try.func19 #[.agg #[.slice A0_0 l0_0.length c0_0, .slice A0_1 l0_1.length c0_1]] ?_; (with_reducible refine (laws_toRun.calls k _ _ l0_0 _ _ l0_1 t350 t353 _ ?side1 ?side2 ?side3 ?side4 A22.out).mono ?_); (case side1 => exact sd HR0_0); (case side2 => exact HC0_0.out); (case side3 => exact sd HR0_1); (case side4 => exact HC0_1.out); rintro e w170 ⟨v351, v354, rfl, ho0, ho1, hb⟩; refine ⟨_, rfl, ?_⟩; have HO352 := Aside0.mk (Kd.R_lower (Kd.R_new' (Kd.R_new' ho0 (Kd.R_lt (ra (h := HO339.out)))) (Kd.R_lt (ra (h := HO345.out)))) (below_size bw)); have HO355 := Aside0.mk (Kd.R_lower (Kd.R_new' (Kd.R_new' ho1 (Kd.R_lt (ra (h := HO342.out)))) (Kd.R_lt (ra (h := HO348.out)))) (below_size bw)); replace HO339 := Aside0.mk (Kd.R_elder' (ra (h := HO339.out)) (Kd.R_base ho0) hb); replace HO342 := Aside0.mk (Kd.R_elder' (ra (h := HO342.out)) (Kd.R_base ho1) hb); replace HO345 := Aside0.mk (Kd.R_elder' (ra (h := HO345.out)) (Kd.R_base ho0) hb); replace HO348 := Aside0.mk (Kd.R_elder' (ra (h := HO348.out)) (Kd.R_base ho1) hb); replace BK333 := bb BK333 hb; replace BK334 := bb BK334 hb; replace HB := bs hb; (try clear hb); (try clear hb2); (try clear hk); (try clear hi); (try clear ho0); (try clear ho1)) | ((with_reducible refine gate_dst (N := 7) rfl ?_); refine bx #[.slice none 0 0, .slice none 0 0] 43 ?_; intro gb356 hg w171 hbox hb; have BK356 := Aside0.mk hbox; have GW356 := bg hg; have GE356 := bg hg; have NB333_356 := bl BK333 hg; have NB356_333 := bv BK333 hg; have NB334_356 := bl BK334 hg; have NB356_334 := bv BK334 hg; replace HO339 := Aside0.mk (Kd.R_below (ra (h := HO339.out)) hb); replace HO342 := Aside0.mk (Kd.R_below (ra (h := HO342.out)) hb); replace HO345 := Aside0.mk (Kd.R_below (ra (h := HO345.out)) hb); replace HO348 := Aside0.mk (Kd.R_below (ra (h := HO348.out)) hb); replace HO352 := Aside0.mk (Kd.R_below (ra (h := HO352.out)) hb); replace HO355 := Aside0.mk (Kd.R_below (ra (h := HO355.out)) hb); replace BK333 := bb BK333 hb; replace BK334 := bb BK334 hb; replace HB := bs hb; clear hb hbox hg; obtain ⟨Ao172, co172, eo172⟩ := Kd.R_slice HO352.out; subst eo172; have hnb173 := NB356_333.out; have hnc173 := NB333_356.out; have hnb174 := NB356_334.out; have hnc174 := NB334_356.out; obtain ⟨z175_0, z175_1, y175_0, y175_1⟩ := bq2 BK356; obtain ⟨Ao176, co176, eo176⟩ := Kd.R_slice HO355.out; subst eo176; obtain ⟨z177_0, z177_1, y177_0, y177_1⟩ := bq2 BK334) | ((with_reducible refine gate_callee (f := 19) rfl ?_); refine gl (some 28) Try.func19 #[.agg #[.slice A1_0 l1_0.length c1_0, .slice A1_1 l1_1.length c1_1]] ?_; (with_reducible refine (laws_toRun.calls k _ _ l1_0 _ _ l1_1 t357 t360 _ ?side1 ?side2 ?side3 ?side4 A23.out).mono ?_); (case side1 => exact Kd.C_below HR1_0.out bw); (case side2 => exact HC1_0.out); (case side3 => exact Kd.C_below HR1_1.out bw); (case side4 => exact HC1_1.out); rintro e w178 ⟨v358, v361, rfl, ho0, ho1, hb⟩; refine ⟨_, rfl, ?_⟩; have HO359 := Aside0.mk (Kd.R_lower (Kd.R_new' (Kd.R_new' (Kd.R_new' ho0 (Kd.R_lt (by refine ra (h := ?_); exact (Kd.R_mono (Kd.R_far (p := ⟨gb356, 1, none⟩) (Kd.R_far (p := ⟨gb356, 0, none⟩) (Kd.R_types HO339.out BK356.out (by decide)) (fun _ hk => hk.2) (.slice Ao172 t350.length co172)) (fun _ hk => hk.2) (.slice Ao176 t353.length co176)) (fun _ h_ => h_.1))))) (Kd.R_lt (by refine ra (h := ?_); exact (Kd.R_mono (Kd.R_far (p := ⟨gb356, 1, none⟩) (Kd.R_far (p := ⟨gb356, 0, none⟩) (Kd.R_types HO345.out BK356.out (by decide)) (fun _ hk => hk.2) (.slice Ao172 t350.length co172)) (fun _ hk => hk.2) (.slice Ao176 t353.length co176)) (fun _ h_ => h_.1))))) (Kd.R_lt (by refine ra (h := ?_); exact (Kd.R_mono (Kd.R_far (p := ⟨gb356, 1, none⟩) (Kd.R_far (p := ⟨gb356, 0, none⟩) (Kd.R_types HO352.out BK356.out (by decide)) (fun _ hk => hk.2) (.slice Ao172 t350.length co172)) (fun _ hk => hk.2) (.slice Ao176 t353.length co176)) (fun _ h_ => h_.1))))) (below_size bw)); have HO362 := Aside0.mk (Kd.R_lower (Kd.R_new' (Kd.R_new' (Kd.R_new' ho1 (Kd.R_lt (by refine ra (h := ?_); exact (Kd.R_mono (Kd.R_far (p := ⟨gb356, 1, none⟩) (Kd.R_far (p := ⟨gb356, 0, none⟩) (Kd.R_types HO342.out BK356.out (by decide)) (fun _ hk => hk.2) (.slice Ao172 t350.length co172)) (fun _ hk => hk.2) (.slice Ao176 t353.length co176)) (fun _ h_ => h_.1))))) (Kd.R_lt (by refine ra (h := ?_); exact (Kd.R_mono (Kd.R_far (p := ⟨gb356, 1, none⟩) (Kd.R_far (p := ⟨gb356, 0, none⟩) (Kd.R_types HO348.out BK356.out (by decide)) (fun _ hk => hk.2) (.slice Ao172 t350.length co172)) (fun _ hk => hk.2) (.slice Ao176 t353.length co176)) (fun _ h_ => h_.1))))) (Kd.R_lt (by refine ra (h := ?_); exact (Kd.R_mono (Kd.R_far (p := ⟨gb356, 1, none⟩) (Kd.R_far (p := ⟨gb356, 0, none⟩) (Kd.R_types HO355.out BK356.out (by decide)) (fun _ hk => hk.2) (.slice Ao172 t350.length co172)) (fun _ hk => hk.2) (.slice Ao176 t353.length co176)) (fun _ h_ => h_.1))))) (below_size bw)); replace HO339 := Aside0.mk (Kd.R_elder' (by refine ra (h := ?_); exact (Kd.R_mono (Kd.R_far (p := ⟨gb356, 1, none⟩) (Kd.R_far (p := ⟨gb356, 0, none⟩) (Kd.R_types HO339.out BK356.out (by decide)) (fun _ hk => hk.2) (.slice Ao172 t350.length co172)) (fun _ hk => hk.2) (.slice Ao176 t353.length co176)) (fun _ h_ => h_.1))) (Kd.R_base ho0) hb); replace HO342 := Aside0.mk (Kd.R_elder' (by refine ra (h := ?_); exact (Kd.R_mono (Kd.R_far (p := ⟨gb356, 1, none⟩) (Kd.R_far (p := ⟨gb356, 0, none⟩) (Kd.R_types HO342.out BK356.out (by decide)) (fun _ hk => hk.2) (.slice Ao172 t350.length co172)) (fun _ hk => hk.2) (.slice Ao176 t353.length co176)) (fun _ h_ => h_.1))) (Kd.R_base ho1) hb); replace HO345 := Aside0.mk (Kd.R_elder' (by refine ra (h := ?_); exact (Kd.R_mono (Kd.R_far (p := ⟨gb356, 1, none⟩) (Kd.R_far (p := ⟨gb356, 0, none⟩) (Kd.R_types HO345.out BK356.out (by decide)) (fun _ hk => hk.2) (.slice Ao172 t350.length co172)) (fun _ hk => hk.2) (.slice Ao176 t353.length co176)) (fun _ h_ => h_.1))) (Kd.R_base ho0) hb); replace HO348 := Aside0.mk (Kd.R_elder' (by refine ra (h := ?_); exact (Kd.R_mono (Kd.R_far (p := ⟨gb356, 1, none⟩) (Kd.R_far (p := ⟨gb356, 0, none⟩) (Kd.R_types HO348.out BK356.out (by decide)) (fun _ hk => hk.2) (.slice Ao172 t350.length co172)) (fun _ hk => hk.2) (.slice Ao176 t353.length co176)) (fun _ h_ => h_.1))) (Kd.R_base ho1) hb); replace HO352 := Aside0.mk (Kd.R_elder' (by refine ra (h := ?_); exact (Kd.R_mono (Kd.R_far (p := ⟨gb356, 1, none⟩) (Kd.R_far (p := ⟨gb356, 0, none⟩) (Kd.R_types HO352.out BK356.out (by decide)) (fun _ hk => hk.2) (.slice Ao172 t350.length co172)) (fun _ hk => hk.2) (.slice Ao176 t353.length co176)) (fun _ h_ => h_.1))) (Kd.R_base ho0) hb); replace HO355 := Aside0.mk (Kd.R_elder' (by refine ra (h := ?_); exact (Kd.R_mono (Kd.R_far (p := ⟨gb356, 1, none⟩) (Kd.R_far (p := ⟨gb356, 0, none⟩) (Kd.R_types HO355.out BK356.out (by decide)) (fun _ hk => hk.2) (.slice Ao172 t350.length co172)) (fun _ hk => hk.2) (.slice Ao176 t353.length co176)) (fun _ h_ => h_.1))) (Kd.R_base ho1) hb); replace BK333 := Aside0.mk (blk_below (g := gb333) (o := .cells #[.slice A0_0 l0_0.length c0_0, .slice A0_1 l0_1.length c0_1] 37 (0, 0)) (by refine bk (h := ?_); refine blk_far ?_ NB333_356.out _; refine bk (h := ?_); refine blk_far ?_ NB333_356.out _; refine bk (h := ?_); exact BK333.out) hb); replace BK334 := Aside0.mk (blk_below (g := gb334) (o := .cells #[.slice A1_0 l1_0.length c1_0, .slice A1_1 l1_1.length c1_1] 37 (0, 0)) (by refine bk (h := ?_); refine blk_far ?_ NB334_356.out _; refine bk (h := ?_); refine blk_far ?_ NB334_356.out _; refine bk (h := ?_); exact BK334.out) hb); replace BK356 := Aside0.mk (blk_below (g := gb356) (o := .cells #[.slice Ao172 t350.length co172, .slice Ao176 t353.length co176] 43 (0, 0)) (by refine bk (h := ?_); refine blk_put (cs := #[.slice Ao172 t350.length co172, .slice none 0 0]) ?_ 1 _ rfl; refine bk (h := ?_); refine blk_put (cs := #[.slice none 0 0, .slice none 0 0]) ?_ 0 _ rfl; refine bk (h := ?_); exact BK356.out) hb); replace HB := bs hb; (try clear hb); (try clear hb2); (try clear hk); (try clear hi); (try clear ho0); (try clear ho1)) | ((with_reducible refine gate_dst (N := 8) rfl ?_); refine bx #[.slice none 0 0, .slice none 0 0] 43 ?_; intro gb363 hg w179 hbox hb; have BK363 := Aside0.mk hbox; have GW363 := bg hg; have GE363 := bg hg; have NB333_363 := bl BK333 hg; have NB363_333 := bv BK333 hg; have NB334_363 := bl BK334 hg; have NB363_334 := bv BK334 hg; have NB356_363 := bl BK356 hg; have NB363_356 := bv BK356 hg; replace HO339 := Aside0.mk (Kd.R_below (ra (h := HO339.out)) hb); replace HO342 := Aside0.mk (Kd.R_below (ra (h := HO342.out)) hb); replace HO345 := Aside0.mk (Kd.R_below (ra (h := HO345.out)) hb); replace HO348 := Aside0.mk (Kd.R_below (ra (h := HO348.out)) hb); replace HO352 := Aside0.mk (Kd.R_below (ra (h := HO352.out)) hb); replace HO355 := Aside0.mk (Kd.R_below (ra (h := HO355.out)) hb); replace HO359 := Aside0.mk (Kd.R_below (ra (h := HO359.out)) hb); replace HO362 := Aside0.mk (Kd.R_below (ra (h := HO362.out)) hb); replace BK333 := bb BK333 hb; replace BK334 := bb BK334 hb; replace BK356 := bb BK356 hb; replace HB := bs hb; clear hb hbox hg; obtain ⟨Ao180, co180, eo180⟩ := Kd.R_slice HO359.out; subst eo180; have hnb181 := NB363_333.out; have hnc181 := NB333_363.out; have hnb182 := NB363_334.out; have hnc182 := NB334_363.out; have hnb183 := NB363_356.out; have hnc183 := NB356_363.out; obtain ⟨z184_0, z184_1, y184_0, y184_1⟩ := bq2 BK363; obtain ⟨Ao185, co185, eo185⟩ := Kd.R_slice HO362.out; subst eo185; obtain ⟨z186_0, z186_1, y186_0, y186_1⟩ := bq2 BK356) | ((with_reducible refine gate_callee (f := 20) rfl ?_); refine gl (some 31) Try.func20 #[.agg #[.slice Ao172 t350.length co172, .slice Ao176 t353.length co176], .agg #[.slice Ao180 t357.length co180, .slice Ao185 t360.length co185]] ?_; (with_reducible refine (impl_SameRun.calls k _ _ t350 _ _ t353 _ _ t357 _ _ t360 t364 _ ?side1 ?side2 ?side3 ?side4 ?side5 ?side6 ?side7 ?side8 A24.out).mono ?_); (case side1 => refine (Kd.R_reads' (e := 65) (base := w.heap.size) (ok := fun k_ => (((True ∧ some k_ ≠ (.slice Ao164 t337.length co164 : Value).ownBlock) ∧ some k_ ≠ (.slice Ao166 t343.length co166 : Value).ownBlock) ∧ some k_ ≠ (.slice Ao180 t357.length co180 : Value).ownBlock)) (n := t350.length) (c := co172) ?_).2.2; exact (by refine ra (h := ?_); exact (Kd.R_mono (Kd.R_far (p := ⟨gb363, 1, none⟩) (Kd.R_far (p := ⟨gb363, 0, none⟩) (Kd.R_types HO352.out BK363.out (by decide)) (fun _ hk => hk.2) (.slice Ao180 t357.length co180)) (fun _ hk => hk.2) (.slice Ao185 t360.length co185)) (fun _ h_ => h_.1)))); (case side2 => exact (Kd.R_reads' HO352.out).2.1); (case side3 => refine (Kd.R_reads' (e := 98) (base := w.heap.size) (ok := fun k_ => (((True ∧ some k_ ≠ (.slice Ao165 t340.length co165 : Value).ownBlock) ∧ some k_ ≠ (.slice Ao167 t346.length co167 : Value).ownBlock) ∧ some k_ ≠ (.slice Ao185 t360.length co185 : Value).ownBlock)) (n := t353.length) (c := co176) ?_).2.2; exact (by refine ra (h := ?_); exact (Kd.R_mono (Kd.R_far (p := ⟨gb363, 1, none⟩) (Kd.R_far (p := ⟨gb363, 0, none⟩) (Kd.R_types HO355.out BK363.out (by decide)) (fun _ hk => hk.2) (.slice Ao180 t357.length co180)) (fun _ hk => hk.2) (.slice Ao185 t360.length co185)) (fun _ h_ => h_.1)))); (case side4 => exact (Kd.R_reads' HO355.out).2.1); (case side5 => refine (Kd.R_reads' (e := 65) (base := w.heap.size) (ok := fun k_ => (((True ∧ some k_ ≠ (.slice Ao164 t337.length co164 : Value).ownBlock) ∧ some k_ ≠ (.slice Ao166 t343.length co166 : Value).ownBlock) ∧ some k_ ≠ (.slice Ao172 t350.length co172 : Value).ownBlock)) (n := t357.length) (c := co180) ?_).2.2; exact (by refine ra (h := ?_); exact (Kd.R_mono (Kd.R_far (p := ⟨gb363, 1, none⟩) (Kd.R_far (p := ⟨gb363, 0, none⟩) (Kd.R_types HO359.out BK363.out (by decide)) (fun _ hk => hk.2) (.slice Ao180 t357.length co180)) (fun _ hk => hk.2) (.slice Ao185 t360.length co185)) (fun _ h_ => h_.1)))); (case side6 => exact (Kd.R_reads' HO359.out).2.1); (case side7 => refine (Kd.R_reads' (e := 98) (base := w.heap.size) (ok := fun k_ => (((True ∧ some k_ ≠ (.slice Ao165 t340.length co165 : Value).ownBlock) ∧ some k_ ≠ (.slice Ao167 t346.length co167 : Value).ownBlock) ∧ some k_ ≠ (.slice Ao176 t353.length co176 : Value).ownBlock)) (n := t360.length) (c := co185) ?_).2.2; exact (by refine ra (h := ?_); exact (Kd.R_mono (Kd.R_far (p := ⟨gb363, 1, none⟩) (Kd.R_far (p := ⟨gb363, 0, none⟩) (Kd.R_types HO362.out BK363.out (by decide)) (fun _ hk => hk.2) (.slice Ao180 t357.length co180)) (fun _ hk => hk.2) (.slice Ao185 t360.length co185)) (fun _ h_ => h_.1)))); (case side8 => exact (Kd.R_reads' HO362.out).2.1); rintro e w187 ⟨rfl, hb⟩; refine ⟨_, rfl, ?_⟩; replace HO339 := Aside0.mk (Kd.R_below (by refine ra (h := ?_); exact (Kd.R_mono (Kd.R_far (p := ⟨gb363, 1, none⟩) (Kd.R_far (p := ⟨gb363, 0, none⟩) (Kd.R_types HO339.out BK363.out (by decide)) (fun _ hk => hk.2) (.slice Ao180 t357.length co180)) (fun _ hk => hk.2) (.slice Ao185 t360.length co185)) (fun _ h_ => h_.1))) hb); replace HO342 := Aside0.mk (Kd.R_below (by refine ra (h := ?_); exact (Kd.R_mono (Kd.R_far (p := ⟨gb363, 1, none⟩) (Kd.R_far (p := ⟨gb363, 0, none⟩) (Kd.R_types HO342.out BK363.out (by decide)) (fun _ hk => hk.2) (.slice Ao180 t357.length co180)) (fun _ hk => hk.2) (.slice Ao185 t360.length co185)) (fun _ h_ => h_.1))) hb); replace HO345 := Aside0.mk (Kd.R_below (by refine ra (h := ?_); exact (Kd.R_mono (Kd.R_far (p := ⟨gb363, 1, none⟩) (Kd.R_far (p := ⟨gb363, 0, none⟩) (Kd.R_types HO345.out BK363.out (by decide)) (fun _ hk => hk.2) (.slice Ao180 t357.length co180)) (fun _ hk => hk.2) (.slice Ao185 t360.length co185)) (fun _ h_ => h_.1))) hb); replace HO348 := Aside0.mk (Kd.R_below (by refine ra (h := ?_); exact (Kd.R_mono (Kd.R_far (p := ⟨gb363, 1, none⟩) (Kd.R_far (p := ⟨gb363, 0, none⟩) (Kd.R_types HO348.out BK363.out (by decide)) (fun _ hk => hk.2) (.slice Ao180 t357.length co180)) (fun _ hk => hk.2) (.slice Ao185 t360.length co185)) (fun _ h_ => h_.1))) hb); replace HO352 := Aside0.mk (Kd.R_below (by refine ra (h := ?_); exact (Kd.R_mono (Kd.R_far (p := ⟨gb363, 1, none⟩) (Kd.R_far (p := ⟨gb363, 0, none⟩) (Kd.R_types HO352.out BK363.out (by decide)) (fun _ hk => hk.2) (.slice Ao180 t357.length co180)) (fun _ hk => hk.2) (.slice Ao185 t360.length co185)) (fun _ h_ => h_.1))) hb); replace HO355 := Aside0.mk (Kd.R_below (by refine ra (h := ?_); exact (Kd.R_mono (Kd.R_far (p := ⟨gb363, 1, none⟩) (Kd.R_far (p := ⟨gb363, 0, none⟩) (Kd.R_types HO355.out BK363.out (by decide)) (fun _ hk => hk.2) (.slice Ao180 t357.length co180)) (fun _ hk => hk.2) (.slice Ao185 t360.length co185)) (fun _ h_ => h_.1))) hb); replace HO359 := Aside0.mk (Kd.R_below (by refine ra (h := ?_); exact (Kd.R_mono (Kd.R_far (p := ⟨gb363, 1, none⟩) (Kd.R_far (p := ⟨gb363, 0, none⟩) (Kd.R_types HO359.out BK363.out (by decide)) (fun _ hk => hk.2) (.slice Ao180 t357.length co180)) (fun _ hk => hk.2) (.slice Ao185 t360.length co185)) (fun _ h_ => h_.1))) hb); replace HO362 := Aside0.mk (Kd.R_below (by refine ra (h := ?_); exact (Kd.R_mono (Kd.R_far (p := ⟨gb363, 1, none⟩) (Kd.R_far (p := ⟨gb363, 0, none⟩) (Kd.R_types HO362.out BK363.out (by decide)) (fun _ hk => hk.2) (.slice Ao180 t357.length co180)) (fun _ hk => hk.2) (.slice Ao185 t360.length co185)) (fun _ h_ => h_.1))) hb); replace BK333 := Aside0.mk (blk_below (g := gb333) (o := .cells #[.slice A0_0 l0_0.length c0_0, .slice A0_1 l0_1.length c0_1] 37 (0, 0)) (by refine bk (h := ?_); refine blk_far ?_ NB333_363.out _; refine bk (h := ?_); refine blk_far ?_ NB333_363.out _; refine bk (h := ?_); exact BK333.out) hb); replace BK334 := Aside0.mk (blk_below (g := gb334) (o := .cells #[.slice A1_0 l1_0.length c1_0, .slice A1_1 l1_1.length c1_1] 37 (0, 0)) (by refine bk (h := ?_); refine blk_far ?_ NB334_363.out _; refine bk (h := ?_); refine blk_far ?_ NB334_363.out _; refine bk (h := ?_); exact BK334.out) hb); replace BK356 := Aside0.mk (blk_below (g := gb356) (o := .cells #[.slice Ao172 t350.length co172, .slice Ao176 t353.length co176] 43 (0, 0)) (by refine bk (h := ?_); refine blk_far ?_ NB356_363.out _; refine bk (h := ?_); refine blk_far ?_ NB356_363.out _; refine bk (h := ?_); exact BK356.out) hb); replace BK363 := Aside0.mk (blk_below (g := gb363) (o := .cells #[.slice Ao180 t357.length co180, .slice Ao185 t360.length co185] 43 (0, 0)) (by refine bk (h := ?_); refine blk_put (cs := #[.slice Ao180 t357.length co180, .slice none 0 0]) ?_ 1 _ rfl; refine bk (h := ?_); refine blk_put (cs := #[.slice none 0 0, .slice none 0 0]) ?_ 0 _ rfl; refine bk (h := ?_); exact BK363.out) hb); replace HB := bs hb; (try clear hb); (try clear hb2); (try clear hk); (try clear hi)))
          replace HO339 := Aside0.mk (Kd.R_drew HO339.out)
          replace HO342 := Aside0.mk (Kd.R_drew HO342.out)
          replace HO345 := Aside0.mk (Kd.R_drew HO345.out)
          replace HO348 := Aside0.mk (Kd.R_drew HO348.out)
          replace HO352 := Aside0.mk (Kd.R_drew HO352.out)
          replace HO355 := Aside0.mk (Kd.R_drew HO355.out)
          replace HO359 := Aside0.mk (Kd.R_drew HO359.out)
          replace HO362 := Aside0.mk (Kd.R_drew HO362.out)
          replace BK333 := Aside0.mk (blk_drew BK333.out)
          replace BK334 := Aside0.mk (blk_drew BK334.out)
          replace BK356 := Aside0.mk (blk_drew BK356.out)
          replace BK363 := Aside0.mk (blk_drew BK363.out)
          replace HB := Aside0.mk (below_drew1 HB.out)
          refine start_ (n := 5) (S := fun w' => w'.cell? ⟨gb356, 0, none⟩ = some (.slice Ao172 t350.length co172) ∧ w'.cell? ⟨gb356, 1, none⟩ = some (.slice Ao176 t353.length co176) ∧ w'.cell? ⟨gb333, 0, none⟩ = some (.slice A0_0 l0_0.length c0_0) ∧ w'.cell? ⟨gb333, 1, none⟩ = some (.slice A0_1 l0_1.length c0_1)) (ds := []) #[false, false, false, false, false] (by kernel_rfl) rfl rfl ⟨(blk_cell BK356.out 0).trans rfl, (blk_cell BK356.out 1).trans rfl, (blk_cell BK333.out 0).trans rfl, (blk_cell BK333.out 1).trans rfl⟩ (fun hHeld => ?_)
          generalize w187.drew = w188 at HO339 HO342 HO345 HO348 HO352 HO355 HO359 HO362 BK333 BK334 BK356 BK363 HB hHeld ⊢
          refine take_ (i := 0) (N := some 35) (v := ?_) (a' := ?_) #[true, false, false, false, false] rfl rfl (by kernel_rfl) (fun _ _ _ h => h) (Or.inl ⟨by rfl, ?_⟩) hHeld ?_ ?_
          rotate_left
          · rintro w' ⟨s0, s1, s2, s3⟩
            go_simp
            with_reducible rfl
          rotate_left
          · simp only [Act.put, List.setIfInBounds_toArray, List.set_cons_zero, List.set_cons_succ, i64_w, i32_w]
            rfl
          refine take_ (i := 1) (N := some 36) (v := ?_) (a' := ?_) #[true, true, false, false, false] rfl rfl (by kernel_rfl) (fun _ _ _ h => h) (Or.inl ⟨by rfl, ?_⟩) hHeld ?_ ?_
          rotate_left
          · rintro w' ⟨s0, s1, s2, s3⟩
            go_simp
            with_reducible rfl
          rotate_left
          · simp only [Act.put, List.setIfInBounds_toArray, List.set_cons_zero, List.set_cons_succ, i64_w, i32_w]
            rfl
          refine one_ (i := 2) (N := some 37) #[true, true, true, false, false] rfl rfl (by kernel_rfl) (by decide) (fun K hK => ?_)
          refine goes_ Try.func19 (by kernel_rfl) rfl #[.agg #[.slice _ l0_0.length c0_0, .slice _ l0_1.length c0_1]] (by rfl) rfl rfl (by (try simp only [List.map_toArray, List.map_cons, List.map_nil]); first | done | rfl | (simp only [List.length_drop, List.length_take]; rfl)) ?_
          with_reducible refine (laws_toRun.calls k _ _ l0_0 _ _ l0_1 t365 t368 _ ?side1 ?side2 ?side3 ?side4 A60.out).mono ?_
          (case side1 => exact sd HR0_0)
          (case side2 => exact HC0_0.out)
          (case side3 => exact sd HR0_1)
          (case side4 => exact HC0_1.out)
          rintro e w189 ⟨v366, v369, rfl, ho0, ho1, hb⟩
          refine ⟨_, rfl, ?_⟩
          have HO367 := Aside0.mk (Kd.R_lower (Kd.R_new' (Kd.R_new' (Kd.R_new' (Kd.R_new' ho0 (Kd.R_lt (ra (h := HO339.out)))) (Kd.R_lt (ra (h := HO345.out)))) (Kd.R_lt (ra (h := HO352.out)))) (Kd.R_lt (ra (h := HO359.out)))) (below_size bw))
          have HO370 := Aside0.mk (Kd.R_lower (Kd.R_new' (Kd.R_new' (Kd.R_new' (Kd.R_new' ho1 (Kd.R_lt (ra (h := HO342.out)))) (Kd.R_lt (ra (h := HO348.out)))) (Kd.R_lt (ra (h := HO355.out)))) (Kd.R_lt (ra (h := HO362.out)))) (below_size bw))
          replace HO339 := Aside0.mk (Kd.R_elder' (ra (h := HO339.out)) (Kd.R_base ho0) hb)
          replace HO342 := Aside0.mk (Kd.R_elder' (ra (h := HO342.out)) (Kd.R_base ho1) hb)
          replace HO345 := Aside0.mk (Kd.R_elder' (ra (h := HO345.out)) (Kd.R_base ho0) hb)
          replace HO348 := Aside0.mk (Kd.R_elder' (ra (h := HO348.out)) (Kd.R_base ho1) hb)
          replace HO352 := Aside0.mk (Kd.R_elder' (ra (h := HO352.out)) (Kd.R_base ho0) hb)
          replace HO355 := Aside0.mk (Kd.R_elder' (ra (h := HO355.out)) (Kd.R_base ho1) hb)
          replace HO359 := Aside0.mk (Kd.R_elder' (ra (h := HO359.out)) (Kd.R_base ho0) hb)
          replace HO362 := Aside0.mk (Kd.R_elder' (ra (h := HO362.out)) (Kd.R_base ho1) hb)
          replace BK333 := bb BK333 hb
          replace BK334 := bb BK334 hb
          replace BK356 := bb BK356 hb
          replace BK363 := bb BK363 hb
          replace HB := bs hb
          (try clear hb)
          (try clear hb2)
          (try clear hk)
          (try clear hi)
          (try clear ho0)
          (try clear ho1)
          obtain ⟨Ao190, co190, eo190⟩ := Kd.R_slice HO367.out
          (first | subst eo190 | (injection eo190 with f1_ f2_ f3_; have f4_ := f1_.symm; have f5_ := f3_.symm; clear f1_ f2_ f3_; subst f4_; subst f5_))
          obtain ⟨Ao191, co191, eo191⟩ := Kd.R_slice HO370.out
          (first | subst eo191 | (injection eo191 with f1_ f2_ f3_; have f4_ := f1_.symm; have f5_ := f3_.symm; clear f1_ f2_ f3_; subst f4_; subst f5_))
          refine hK.out _ _ ⟨(blk_cell BK356.out 0).trans rfl, (blk_cell BK356.out 1).trans rfl, (blk_cell BK333.out 0).trans rfl, (blk_cell BK333.out 1).trans rfl⟩ (fun hHeld => ?_)
          clear hK K
          refine norm_ (a' := ?_) ?_ ?_
          rotate_left
          · show Act.put _ (some 37) _ = _
            simp only [Act.put, List.setIfInBounds_toArray, List.set_cons_zero, List.set_cons_succ, i64_w, i32_w]
            rfl
          refine one_ (i := 3) (N := some 38) #[true, true, true, true, false] rfl rfl (by kernel_rfl) (by decide) (fun K hK => ?_)
          refine goes_ Try.func21 (by kernel_rfl) rfl #[.agg #[.slice _ t350.length co172, .slice _ t353.length co176], .agg #[.slice _ t365.length co190, .slice _ t368.length co191]] (by rfl) rfl rfl (by (try simp only [List.map_toArray, List.map_cons, List.map_nil]); first | done | rfl | (simp only [List.length_drop, List.length_take]; rfl)) ?_
          with_reducible refine (laws_eqRun.calls k _ _ t350 _ _ t353 _ _ t365 _ _ t368 false _ ?side1 ?side2 ?side3 ?side4 ?side5 ?side6 ?side7 ?side8 A61.out).mono ?_
          (case side1 => exact se HO352)
          (case side2 => exact (Kd.R_reads' HO352.out).2.1)
          (case side3 => exact se HO355)
          (case side4 => exact (Kd.R_reads' HO355.out).2.1)
          (case side5 => exact se HO367)
          (case side6 => exact (Kd.R_reads' HO367.out).2.1)
          (case side7 => exact se HO370)
          (case side8 => exact (Kd.R_reads' HO370.out).2.1)
          rintro e w192 ⟨rfl, hb⟩
          refine ⟨_, rfl, ?_⟩
          replace HO339 := Aside0.mk (Kd.R_below (ra (h := HO339.out)) hb)
          replace HO342 := Aside0.mk (Kd.R_below (ra (h := HO342.out)) hb)
          replace HO345 := Aside0.mk (Kd.R_below (ra (h := HO345.out)) hb)
          replace HO348 := Aside0.mk (Kd.R_below (ra (h := HO348.out)) hb)
          replace HO352 := Aside0.mk (Kd.R_below (ra (h := HO352.out)) hb)
          replace HO355 := Aside0.mk (Kd.R_below (ra (h := HO355.out)) hb)
          replace HO359 := Aside0.mk (Kd.R_below (ra (h := HO359.out)) hb)
          replace HO362 := Aside0.mk (Kd.R_below (ra (h := HO362.out)) hb)
          replace HO367 := Aside0.mk (Kd.R_below (ra (h := HO367.out)) hb)
          replace HO370 := Aside0.mk (Kd.R_below (ra (h := HO370.out)) hb)
          replace BK333 := bb BK333 hb
          replace BK334 := bb BK334 hb
          replace BK356 := bb BK356 hb
          replace BK363 := bb BK363 hb
          replace HB := bs hb
          (try clear hb)
          (try clear hb2)
          (try clear hk)
          (try clear hi)
          refine hK.out _ _ ⟨(blk_cell BK356.out 0).trans rfl, (blk_cell BK356.out 1).trans rfl, (blk_cell BK333.out 0).trans rfl, (blk_cell BK333.out 1).trans rfl⟩ (fun hHeld => ?_)
          clear hK K
          refine norm_ (a' := ?_) ?_ ?_
          rotate_left
          · show Act.put _ (some 38) _ = _
            simp only [Act.put, List.setIfInBounds_toArray, List.set_cons_zero, List.set_cons_succ, i64_w, i32_w]
            rfl
          refine pure_ (i := 4) (N := some 39) (v := ?_) (a' := ?_) #[true, true, true, true, true] rfl rfl (by kernel_rfl) (fun _ _ _ h => h) (Or.inl ⟨by rfl, ?_⟩) ?_ ?_
          rotate_left
          · intro w'
            go_simp
            with_reducible rfl
          rotate_left
          · simp only [Act.put, List.setIfInBounds_toArray, List.set_cons_zero, List.set_cons_succ, i64_w, i32_w]
            rfl
          refine done_ (by kernel_rfl) ?_
          try go_wp2
          go_ret
          exact ⟨er, bw⟩

end Go.Proofs.Yteadienaeapaeaa.PC
