-- Made by a program of this session (myprint.py) out of the translation.
import Derived.Test.YteadienaeapaeaaZssPTx0
import Derived.Test.YteadienaeapaeaaZssShort
namespace Go.Proofs.Yteadienaeapaeaa.PT
open Go.Proofs.Yteadienaeapaeaa.Short
open Go.Proofs.Yteadienaeapaeaa.Dyn
open Go.RowKit Go.Proofs.YteadienaeapaeaaW.PrintWords Go.Proofs.YteadienaeapaeaaW.PrintLast Go.Proofs.YteadienaeapaeaaW.PrintMore
attribute [local go_sem] max2_int min2_int max_two min_two max_three min_three max_four min_four   -- for this text's walks alone
set_option linter.unusedVariables false
set_option linter.unusedSimpArgs false

/-! ### laws_eqNum: function 185 -/
def laws_eqNum.f (a0_0 : Int) (a0_1 : Int) (a0_2 : Int) (a1_0 : Int) (a1_1 : Int) (a1_2 : Int) : Option (Bool) := if a0_0 = a1_0 then (if a0_1 = a1_1 then (if a0_2 = a1_2 then (some true) else (some false)) else (some false)) else (some false)
set_option maxHeartbeats 8000000 in
set_option maxRecDepth 100000 in
theorem laws_eqNum.calls (a0_0 : Int) (a0_1 : Int) (a0_2 : Int) (a1_0 : Int) (a1_1 : Int) (a1_2 : Int) (r : Bool) (w : World) (h : laws_eqNum.f a0_0 a0_1 a0_2 a1_0 a1_1 a1_2 = some r) :
    Calls Try.prog 185 #[.agg #[.int .i64 a0_0, .int .i64 a0_1, .int .i64 a0_2], .agg #[.int .i64 a1_0, .int .i64 a1_1, .int .i64 a1_2]] w fun e w' => e = .returned (.bool r) ∧ Below w.heap.size w w' := by
  have hu94 := Try.underlying94
  have HB := Aside0.mk (Below.refl w.heap.size w)
  have H : (if a0_0 = a1_0 then (if a0_1 = a1_1 then (if a0_2 = a1_2 then (some true) else (some false)) else (some false)) else (some false)) = some r := h
  clear h
  by_cases c3 : a0_0 = a1_0
  · rw [if_pos c3] at H
    have c3b0 : (a0_0 == a1_0) = true := beq_iff_eq.mpr c3
    have c3b1 : (a0_0 != a1_0) = false := bne_eq_false_iff_eq.mpr c3
    clear c3
    by_cases c4 : a0_1 = a1_1
    · rw [if_pos c4] at H
      have c4b0 : (a0_1 == a1_1) = true := beq_iff_eq.mpr c4
      have c4b1 : (a0_1 != a1_1) = false := bne_eq_false_iff_eq.mpr c4
      clear c4
      by_cases c5 : a0_2 = a1_2
      · rw [if_pos c5] at H
        have c5b0 : (a0_2 == a1_2) = true := beq_iff_eq.mpr c5
        have c5b1 : (a0_2 != a1_2) = false := bne_eq_false_iff_eq.mpr c5
        clear c5
        obtain rfl := Option.some.inj H
        go_enter Try.func185, Try.ntmps185
        go_wp2_with (first | ((with_reducible refine gate_dst (N := 2) rfl ?_); refine bx #[.int .i64 a0_0, .int .i64 a0_1, .int .i64 a0_2] 94 ?_; intro gb308 hg w6 hbox hb; have BK308 := Aside0.mk hbox; have GW308 := bg hg; have GE308 := bg hg; replace HB := bs hb; clear hb hbox hg) | ((with_reducible refine gate_dst (N := 3) rfl ?_); refine bx #[.int .i64 a1_0, .int .i64 a1_1, .int .i64 a1_2] 94 ?_; intro gb309 hg w7 hbox hb; have BK309 := Aside0.mk hbox; have GW309 := bg hg; have GE309 := bg hg; have NB308_309 := bl BK308 hg; have NB309_308 := bv BK308 hg; replace BK308 := bb BK308 hb; replace HB := bs hb; clear hb hbox hg; have hnb8 := NB308_309.out; have hnc8 := NB309_308.out; obtain ⟨z9_0, z9_1, z9_2, y9_0, y9_1, y9_2⟩ := bq3 BK308; obtain ⟨z10_0, z10_1, z10_2, y10_0, y10_1, y10_2⟩ := bq3 BK309))
        go_ret
        exact ⟨er, bw⟩
      · rw [if_neg c5] at H
        have c5b0 : (a0_2 == a1_2) = false := beq_eq_false_iff_ne.mpr c5
        have c5b1 : (a0_2 != a1_2) = true := bne_iff_ne.mpr c5
        obtain rfl := Option.some.inj H
        go_enter Try.func185, Try.ntmps185
        go_wp2_with (first | ((with_reducible refine gate_dst (N := 2) rfl ?_); refine bx #[.int .i64 a0_0, .int .i64 a0_1, .int .i64 a0_2] 94 ?_; intro gb308 hg w11 hbox hb; have BK308 := Aside0.mk hbox; have GW308 := bg hg; have GE308 := bg hg; replace HB := bs hb; clear hb hbox hg) | ((with_reducible refine gate_dst (N := 3) rfl ?_); refine bx #[.int .i64 a1_0, .int .i64 a1_1, .int .i64 a1_2] 94 ?_; intro gb309 hg w12 hbox hb; have BK309 := Aside0.mk hbox; have GW309 := bg hg; have GE309 := bg hg; have NB308_309 := bl BK308 hg; have NB309_308 := bv BK308 hg; replace BK308 := bb BK308 hb; replace HB := bs hb; clear hb hbox hg; have hnb13 := NB308_309.out; have hnc13 := NB309_308.out; obtain ⟨z14_0, z14_1, z14_2, y14_0, y14_1, y14_2⟩ := bq3 BK308; obtain ⟨z15_0, z15_1, z15_2, y15_0, y15_1, y15_2⟩ := bq3 BK309))
        go_ret
        exact ⟨er, bw⟩
    · rw [if_neg c4] at H
      have c4b0 : (a0_1 == a1_1) = false := beq_eq_false_iff_ne.mpr c4
      have c4b1 : (a0_1 != a1_1) = true := bne_iff_ne.mpr c4
      obtain rfl := Option.some.inj H
      go_enter Try.func185, Try.ntmps185
      go_wp2_with (first | ((with_reducible refine gate_dst (N := 2) rfl ?_); refine bx #[.int .i64 a0_0, .int .i64 a0_1, .int .i64 a0_2] 94 ?_; intro gb308 hg w16 hbox hb; have BK308 := Aside0.mk hbox; have GW308 := bg hg; have GE308 := bg hg; replace HB := bs hb; clear hb hbox hg) | ((with_reducible refine gate_dst (N := 3) rfl ?_); refine bx #[.int .i64 a1_0, .int .i64 a1_1, .int .i64 a1_2] 94 ?_; intro gb309 hg w17 hbox hb; have BK309 := Aside0.mk hbox; have GW309 := bg hg; have GE309 := bg hg; have NB308_309 := bl BK308 hg; have NB309_308 := bv BK308 hg; replace BK308 := bb BK308 hb; replace HB := bs hb; clear hb hbox hg; have hnb18 := NB308_309.out; have hnc18 := NB309_308.out; obtain ⟨z19_0, z19_1, z19_2, y19_0, y19_1, y19_2⟩ := bq3 BK308; obtain ⟨z20_0, z20_1, z20_2, y20_0, y20_1, y20_2⟩ := bq3 BK309))
      go_ret
      exact ⟨er, bw⟩
  · rw [if_neg c3] at H
    have c3b0 : (a0_0 == a1_0) = false := beq_eq_false_iff_ne.mpr c3
    have c3b1 : (a0_0 != a1_0) = true := bne_iff_ne.mpr c3
    obtain rfl := Option.some.inj H
    go_enter Try.func185, Try.ntmps185
    go_wp2_with (first | ((with_reducible refine gate_dst (N := 2) rfl ?_); refine bx #[.int .i64 a0_0, .int .i64 a0_1, .int .i64 a0_2] 94 ?_; intro gb308 hg w21 hbox hb; have BK308 := Aside0.mk hbox; have GW308 := bg hg; have GE308 := bg hg; replace HB := bs hb; clear hb hbox hg) | ((with_reducible refine gate_dst (N := 3) rfl ?_); refine bx #[.int .i64 a1_0, .int .i64 a1_1, .int .i64 a1_2] 94 ?_; intro gb309 hg w22 hbox hb; have BK309 := Aside0.mk hbox; have GW309 := bg hg; have GE309 := bg hg; have NB308_309 := bl BK308 hg; have NB309_308 := bv BK308 hg; replace BK308 := bb BK308 hb; replace HB := bs hb; clear hb hbox hg; have hnb23 := NB308_309.out; have hnc23 := NB309_308.out; obtain ⟨z24_0, z24_1, z24_2, y24_0, y24_1, y24_2⟩ := bq3 BK308; obtain ⟨z25_0, z25_1, z25_2, y25_0, y25_1, y25_2⟩ := bq3 BK309))
    go_ret
    exact ⟨er, bw⟩

/-! ### laws_eqPoint: function 150 -/
def laws_eqPoint.f (a0_0 : Int) (a0_1 : Int) (a0_2 : Int) (a0_3 : Int) (a0_4 : Int) (a0_5 : Int) (a1_0 : Int) (a1_1 : Int) (a1_2 : Int) (a1_3 : Int) (a1_4 : Int) (a1_5 : Int) : Option (Bool) := (laws_eqNum.f a0_0 a0_1 a0_2 a1_0 a1_1 a1_2).bind fun t312 => (if t312 = true then ((laws_eqNum.f a0_3 a0_4 a0_5 a1_3 a1_4 a1_5).bind fun t313 => (if t313 = true then (some true) else (some false))) else (some false))
set_option maxHeartbeats 8000000 in
set_option maxRecDepth 100000 in
theorem laws_eqPoint.calls (a0_0 : Int) (a0_1 : Int) (a0_2 : Int) (a0_3 : Int) (a0_4 : Int) (a0_5 : Int) (a1_0 : Int) (a1_1 : Int) (a1_2 : Int) (a1_3 : Int) (a1_4 : Int) (a1_5 : Int) (r : Bool) (w : World) (h : laws_eqPoint.f a0_0 a0_1 a0_2 a0_3 a0_4 a0_5 a1_0 a1_1 a1_2 a1_3 a1_4 a1_5 = some r) :
    Calls Try.prog 150 #[.agg #[.int .i64 a0_0, .int .i64 a0_1, .int .i64 a0_2, .int .i64 a0_3, .int .i64 a0_4, .int .i64 a0_5], .agg #[.int .i64 a1_0, .int .i64 a1_1, .int .i64 a1_2, .int .i64 a1_3, .int .i64 a1_4, .int .i64 a1_5]] w fun e w' => e = .returned (.bool r) ∧ Below w.heap.size w w' := by
  have hu130 := Try.underlying130
  have hu94 := Try.underlying94
  have HB := Aside0.mk (Below.refl w.heap.size w)
  have H : ((laws_eqNum.f a0_0 a0_1 a0_2 a1_0 a1_1 a1_2).bind fun t312 => (if t312 = true then ((laws_eqNum.f a0_3 a0_4 a0_5 a1_3 a1_4 a1_5).bind fun t313 => (if t313 = true then (some true) else (some false))) else (some false))) = some r := h
  clear h
  replace H := Option.bind_eq_some_iff.mp H
  obtain ⟨t312, A30, H⟩ := H
  replace H : (if t312 = true then ((laws_eqNum.f a0_3 a0_4 a0_5 a1_3 a1_4 a1_5).bind fun t313 => (if t313 = true then (some true) else (some false))) else (some false)) = some r := H
  have A3 := Aside0.mk A30
  clear A30
  by_cases c4 : t312 = true
  · subst c4
    rw [if_pos rfl] at H
    replace H := Option.bind_eq_some_iff.mp H
    obtain ⟨t313, A50, H⟩ := H
    replace H : (if t313 = true then (some true) else (some false)) = some r := H
    have A5 := Aside0.mk A50
    clear A50
    by_cases c6 : t313 = true
    · subst c6
      rw [if_pos rfl] at H
      obtain rfl := Option.some.inj H
      go_enter Try.func150, Try.ntmps150
      go_wp2_with (first | ((with_reducible refine gate_dst (N := 2) rfl ?_); refine bx #[.int .i64 a0_0, .int .i64 a0_1, .int .i64 a0_2, .int .i64 a0_3, .int .i64 a0_4, .int .i64 a0_5] 130 ?_; intro gb310 hg w7 hbox hb; have BK310 := Aside0.mk hbox; have GW310 := bg hg; have GE310 := bg hg; replace HB := bs hb; clear hb hbox hg) | ((with_reducible refine gate_dst (N := 3) rfl ?_); refine bx #[.int .i64 a1_0, .int .i64 a1_1, .int .i64 a1_2, .int .i64 a1_3, .int .i64 a1_4, .int .i64 a1_5] 130 ?_; intro gb311 hg w8 hbox hb; have BK311 := Aside0.mk hbox; have GW311 := bg hg; have GE311 := bg hg; have NB310_311 := bl BK310 hg; have NB311_310 := bv BK310 hg; replace BK310 := bb BK310 hb; replace HB := bs hb; clear hb hbox hg; have hnb9 := NB310_311.out; have hnc9 := NB311_310.out; obtain ⟨z10_0, z10_1, z10_2, z10_3, z10_4, z10_5, y10_0, y10_1, y10_2, y10_3, y10_4, y10_5⟩ := bq6 BK310; obtain ⟨z11_0, z11_1, z11_2, z11_3, z11_4, z11_5, y11_0, y11_1, y11_2, y11_3, y11_4, y11_5⟩ := bq6 BK311) | ((with_reducible refine gate_callee (f := 185) rfl ?_); refine gl (some 9) Try.func185 #[.agg #[.int .i64 a0_0, .int .i64 a0_1, .int .i64 a0_2], .agg #[.int .i64 a1_0, .int .i64 a1_1, .int .i64 a1_2]] ?_; (with_reducible refine (laws_eqNum.calls a0_0 a0_1 a0_2 a1_0 a1_1 a1_2 true _ A3.out).mono ?_); rintro e w12 ⟨rfl, hb⟩; refine ⟨_, rfl, ?_⟩; replace BK310 := bb BK310 hb; replace BK311 := bb BK311 hb; replace HB := bs hb; (try clear hb); (try clear hb2); (try clear hk); (try clear hi); obtain ⟨z13_0, z13_1, z13_2, z13_3, z13_4, z13_5, y13_0, y13_1, y13_2, y13_3, y13_4, y13_5⟩ := bq6 BK310; obtain ⟨z14_0, z14_1, z14_2, z14_3, z14_4, z14_5, y14_0, y14_1, y14_2, y14_3, y14_4, y14_5⟩ := bq6 BK311) | ((with_reducible refine gate_callee (f := 185) rfl ?_); refine gl (some 15) Try.func185 #[.agg #[.int .i64 a0_3, .int .i64 a0_4, .int .i64 a0_5], .agg #[.int .i64 a1_3, .int .i64 a1_4, .int .i64 a1_5]] ?_; (with_reducible refine (laws_eqNum.calls a0_3 a0_4 a0_5 a1_3 a1_4 a1_5 true _ A5.out).mono ?_); rintro e w15 ⟨rfl, hb⟩; refine ⟨_, rfl, ?_⟩; replace BK310 := bb BK310 hb; replace BK311 := bb BK311 hb; replace HB := bs hb; (try clear hb); (try clear hb2); (try clear hk); (try clear hi)))
      go_ret
      exact ⟨er, bw⟩
    · replace c6 := Bool.eq_false_iff.mpr c6
      subst c6
      rw [if_neg nf] at H
      obtain rfl := Option.some.inj H
      go_enter Try.func150, Try.ntmps150
      go_wp2_with (first | ((with_reducible refine gate_dst (N := 2) rfl ?_); refine bx #[.int .i64 a0_0, .int .i64 a0_1, .int .i64 a0_2, .int .i64 a0_3, .int .i64 a0_4, .int .i64 a0_5] 130 ?_; intro gb310 hg w16 hbox hb; have BK310 := Aside0.mk hbox; have GW310 := bg hg; have GE310 := bg hg; replace HB := bs hb; clear hb hbox hg) | ((with_reducible refine gate_dst (N := 3) rfl ?_); refine bx #[.int .i64 a1_0, .int .i64 a1_1, .int .i64 a1_2, .int .i64 a1_3, .int .i64 a1_4, .int .i64 a1_5] 130 ?_; intro gb311 hg w17 hbox hb; have BK311 := Aside0.mk hbox; have GW311 := bg hg; have GE311 := bg hg; have NB310_311 := bl BK310 hg; have NB311_310 := bv BK310 hg; replace BK310 := bb BK310 hb; replace HB := bs hb; clear hb hbox hg; have hnb18 := NB310_311.out; have hnc18 := NB311_310.out; obtain ⟨z19_0, z19_1, z19_2, z19_3, z19_4, z19_5, y19_0, y19_1, y19_2, y19_3, y19_4, y19_5⟩ := bq6 BK310; obtain ⟨z20_0, z20_1, z20_2, z20_3, z20_4, z20_5, y20_0, y20_1, y20_2, y20_3, y20_4, y20_5⟩ := bq6 BK311) | ((with_reducible refine gate_callee (f := 185) rfl ?_); refine gl (some 9) Try.func185 #[.agg #[.int .i64 a0_0, .int .i64 a0_1, .int .i64 a0_2], .agg #[.int .i64 a1_0, .int .i64 a1_1, .int .i64 a1_2]] ?_; (with_reducible refine (laws_eqNum.calls a0_0 a0_1 a0_2 a1_0 a1_1 a1_2 true _ A3.out).mono ?_); rintro e w21 ⟨rfl, hb⟩; refine ⟨_, rfl, ?_⟩; replace BK310 := bb BK310 hb; replace BK311 := bb BK311 hb; replace HB := bs hb; (try clear hb); (try clear hb2); (try clear hk); (try clear hi); obtain ⟨z22_0, z22_1, z22_2, z22_3, z22_4, z22_5, y22_0, y22_1, y22_2, y22_3, y22_4, y22_5⟩ := bq6 BK310; obtain ⟨z23_0, z23_1, z23_2, z23_3, z23_4, z23_5, y23_0, y23_1, y23_2, y23_3, y23_4, y23_5⟩ := bq6 BK311) | ((with_reducible refine gate_callee (f := 185) rfl ?_); refine gl (some 15) Try.func185 #[.agg #[.int .i64 a0_3, .int .i64 a0_4, .int .i64 a0_5], .agg #[.int .i64 a1_3, .int .i64 a1_4, .int .i64 a1_5]] ?_; (with_reducible refine (laws_eqNum.calls a0_3 a0_4 a0_5 a1_3 a1_4 a1_5 false _ A5.out).mono ?_); rintro e w24 ⟨rfl, hb⟩; refine ⟨_, rfl, ?_⟩; replace BK310 := bb BK310 hb; replace BK311 := bb BK311 hb; replace HB := bs hb; (try clear hb); (try clear hb2); (try clear hk); (try clear hi)))
      go_ret
      exact ⟨er, bw⟩
  · replace c4 := Bool.eq_false_iff.mpr c4
    subst c4
    rw [if_neg nf] at H
    obtain rfl := Option.some.inj H
    go_enter Try.func150, Try.ntmps150
    go_wp2_with (first | ((with_reducible refine gate_dst (N := 2) rfl ?_); refine bx #[.int .i64 a0_0, .int .i64 a0_1, .int .i64 a0_2, .int .i64 a0_3, .int .i64 a0_4, .int .i64 a0_5] 130 ?_; intro gb310 hg w25 hbox hb; have BK310 := Aside0.mk hbox; have GW310 := bg hg; have GE310 := bg hg; replace HB := bs hb; clear hb hbox hg) | ((with_reducible refine gate_dst (N := 3) rfl ?_); refine bx #[.int .i64 a1_0, .int .i64 a1_1, .int .i64 a1_2, .int .i64 a1_3, .int .i64 a1_4, .int .i64 a1_5] 130 ?_; intro gb311 hg w26 hbox hb; have BK311 := Aside0.mk hbox; have GW311 := bg hg; have GE311 := bg hg; have NB310_311 := bl BK310 hg; have NB311_310 := bv BK310 hg; replace BK310 := bb BK310 hb; replace HB := bs hb; clear hb hbox hg; have hnb27 := NB310_311.out; have hnc27 := NB311_310.out; obtain ⟨z28_0, z28_1, z28_2, z28_3, z28_4, z28_5, y28_0, y28_1, y28_2, y28_3, y28_4, y28_5⟩ := bq6 BK310; obtain ⟨z29_0, z29_1, z29_2, z29_3, z29_4, z29_5, y29_0, y29_1, y29_2, y29_3, y29_4, y29_5⟩ := bq6 BK311) | ((with_reducible refine gate_callee (f := 185) rfl ?_); refine gl (some 9) Try.func185 #[.agg #[.int .i64 a0_0, .int .i64 a0_1, .int .i64 a0_2], .agg #[.int .i64 a1_0, .int .i64 a1_1, .int .i64 a1_2]] ?_; (with_reducible refine (laws_eqNum.calls a0_0 a0_1 a0_2 a1_0 a1_1 a1_2 false _ A3.out).mono ?_); rintro e w30 ⟨rfl, hb⟩; refine ⟨_, rfl, ?_⟩; replace BK310 := bb BK310 hb; replace BK311 := bb BK311 hb; replace HB := bs hb; (try clear hb); (try clear hb2); (try clear hk); (try clear hi)))
    go_ret
    exact ⟨er, bw⟩

/-! ### laws_eqPointS: function 97 -/
def laws_eqPointS.l0 : Nat → List (S130) → List (S130) → Int → Option (Bool)
  | 0, _, _, _ => none
  | k + 1, x0, x1, x5 => if x5 < (x0.length : Int) then (if 0 ≤ x5 then (if x5 < (x1.length : Int) then ((laws_eqPoint.f ((rd_T130 x0 x5).f0.f0) ((rd_T130 x0 x5).f0.f1) ((rd_T130 x0 x5).f0.f2) ((rd_T130 x0 x5).f1.f0) ((rd_T130 x0 x5).f1.f1) ((rd_T130 x0 x5).f1.f2) ((rd_T130 x1 x5).f0.f0) ((rd_T130 x1 x5).f0.f1) ((rd_T130 x1 x5).f0.f2) ((rd_T130 x1 x5).f1.f0) ((rd_T130 x1 x5).f1.f1) ((rd_T130 x1 x5).f1.f2)).bind fun t316 => (if t316 = true then (laws_eqPointS.l0 k x0 x1 (wrap64 (x5 + 1))) else (some false))) else (none)) else (none)) else (some true)
def laws_eqPointS.f (k : Nat) (l0 : List (S130)) (l1 : List (S130)) : Option (Bool) := if (l0.length : Int) = (l1.length : Int) then (laws_eqPointS.l0 k l0 l1 0) else (some false)
theorem laws_eqPointS.mono_l : ∀ k, (∀ y0 y1 y2, LeO (laws_eqPointS.l0 k y0 y1 y2) (laws_eqPointS.l0 (k + 1) y0 y1 y2))
  | 0 => fun _ _ _ r h => by simp [laws_eqPointS.l0] at h
  | k + 1 => by
    have ih0 := laws_eqPointS.mono_l k
    · intro y0 y1 y2
      unfold laws_eqPointS.l0
      repeat' first
      | (with_reducible exact ih0 _ _ _)
      | (with_reducible exact LeO.refl _)
      | (with_reducible exact LeO.none _)
      | (with_reducible refine LeO.ite ?_ ?_)
      | (with_reducible refine LeO.bind ?_ (fun _ => ?_))
      | exact ih0 _ _ _
      | exact LeO.none _
      | refine LeO.ite ?_ ?_
      | refine LeO.bind ?_ (fun _ => ?_)
theorem laws_eqPointS.mono : ∀ a0 a1 k, LeO (laws_eqPointS.f k a0 a1) (laws_eqPointS.f (k + 1) a0 a1) := by
  intro a0 a1 k
  have ih0 := laws_eqPointS.mono_l k
  unfold laws_eqPointS.f
  repeat' first
      | (with_reducible exact ih0 _ _ _)
      | (with_reducible exact LeO.refl _)
      | (with_reducible exact LeO.none _)
      | (with_reducible refine LeO.ite ?_ ?_)
      | (with_reducible refine LeO.bind ?_ (fun _ => ?_))
      | exact ih0 _ _ _
      | exact LeO.none _
      | refine LeO.ite ?_ ?_
      | refine LeO.bind ?_ (fun _ => ?_)
def laws_eqPointS.T6 : Bool × List (List Nat × List Nat) := (true, [([], []), ([], []), ([0, 1], [0, 1]), ([2], [2]), ([], []), ([], []), ([4, 5], [4, 5]), ([6], [6]), ([3, 7], [3, 7]), ([8], [8])])
def laws_eqPointS.B6 : List Nat := [0, 0, 3, 7, 0, 0, 48, 112, 255, 511]
theorem laws_eqPointS.tab6 : rtab .any (opsOf Try.f97 6) = laws_eqPointS.T6 := by kernel_rfl
theorem laws_eqPointS.bits6 : waitsOk laws_eqPointS.T6.2 laws_eqPointS.B6 = true := by kernel_rfl
set_option maxHeartbeats 8000000 in
set_option maxRecDepth 100000 in
theorem laws_eqPointS.calls (k : Nat) (A0 : Option Addr) (c0 : Nat) (l0 : List (S130)) (A1 : Option Addr) (c1 : Nat) (l1 : List (S130)) (r : Bool) (w : World) (hr0 : Kd.C k130 w A0 l0.length l0) (hc0 : l0.length ≤ c0) (hr1 : Kd.C k130 w A1 l1.length l1) (hc1 : l1.length ≤ c1) (h : laws_eqPointS.f k l0 l1 = some r) :
    Calls Try.prog 97 #[.slice A0 l0.length c0, .slice A1 l1.length c1] w fun e w' => e = .returned (.bool r) ∧ Below w.heap.size w w' := by
  have hu130 := Try.underlying130
  have HR0 := Aside0.mk hr0
  have HC0 := Aside0.mk hc0
  clear hr0 hc0
  have HR1 := Aside0.mk hr1
  have HC1 := Aside0.mk hc1
  clear hr1 hc1
  have HB := Aside0.mk (Below.refl w.heap.size w)
  have H : (if (l0.length : Int) = (l1.length : Int) then (laws_eqPointS.l0 k l0 l1 0) else (some false)) = some r := h
  clear h
  by_cases c3 : (l0.length : Int) = (l1.length : Int)
  · rw [if_pos c3] at H
    have c3b0 : ((l0.length : Int) == (l1.length : Int)) = true := beq_iff_eq.mpr c3
    have c3b1 : ((l0.length : Int) != (l1.length : Int)) = false := bne_eq_false_iff_eq.mpr c3
    have c3b2 : (l0.length == l1.length) = true := by first | simpa using c3 | (simp at c3 ⊢; omega)
    clear c3
    have H' := Aside0.mk H
    clear H
    go_enter Try.func97, Try.ntmps97
    go_wp2
    go_loopg [5] k (fun kq v5 w' => ∃ (x5_1 : Int), v5 = .int .i64 x5_1 ∧ Aside0 (laws_eqPointS.l0 kq l0 l1 x5_1 = some r) ∧ Aside0 (kq ≤ k) ∧ Aside0 (Below w.heap.size w w'))
    case atStart => exact ⟨(0), (by first | rfl | (simp; done) | (simp [*]; done)), H', ⟨Nat.le_refl _⟩, ⟨bw⟩⟩
    case round =>
      clear H'
      try clear c1
      try clear p2
      try clear c3
      try clear c3b0
      try clear c3b1
      try clear c3b2
      obtain ⟨x5_1, rfl, HA, HK1, HB⟩ := hrel
      cases gk with
      | zero => exact absurd HA.out (by simp [laws_eqPointS.l0])
      | succ k1 =>
        have H := HA.out
        clear HA
        simp only [laws_eqPointS.l0] at H
        by_cases c4 : x5_1 < (l0.length : Int)
        · rw [if_pos c4] at H
          have c4b0 : decide (x5_1 < (l0.length : Int)) = true := decide_eq_true c4
          clear c4
          by_cases c5 : 0 ≤ x5_1
          · rw [if_pos c5] at H
            have c5b0 : decide (0 ≤ x5_1) = true := decide_eq_true c5
            clear c5
            by_cases c6 : x5_1 < (l1.length : Int)
            · rw [if_pos c6] at H
              have c6b0 : decide (x5_1 < (l1.length : Int)) = true := decide_eq_true c6
              clear c6
              replace H := Option.bind_eq_some_iff.mp H
              obtain ⟨t316, A70, H⟩ := H
              replace H : (if t316 = true then (laws_eqPointS.l0 k1 l0 l1 (wrap64 (x5_1 + 1))) else (some false)) = some r := H
              have A7 := Aside0.mk A70
              clear A70
              by_cases c8 : t316 = true
              · subst c8
                rw [if_pos rfl] at H
                have H' := Aside0.mk H
                clear H
                try go_wp2
                replace HB := Aside0.mk (below_drew1 HB.out)
                have p314 : 0 ≤ (x5_1 : Int) := od
                have q314 : x5_1 < (l0.length : Int) := od
                obtain ⟨ad314, e314, hx314_0, hx314_1, hx314_2, hx314_3, hx314_4, hx314_5⟩ := at_T130 HR0.out x5_1 p314 q314
                have hw314_5 := hx314_5
                have hw314_4 := hx314_4
                have hw314_3 := hx314_3
                have hw314_2 := hx314_2
                have hw314_1 := hx314_1
                have hw314_0 := hx314_0
                cases e314
                replace hx314_0 := bc hx314_0
                replace hx314_1 := bc hx314_1
                replace hx314_2 := bc hx314_2
                replace hx314_3 := bc hx314_3
                replace hx314_4 := bc hx314_4
                replace hx314_5 := bc hx314_5
                replace p314 := eq_true p314
                replace q314 := eq_true q314
                have p315 : 0 ≤ (x5_1 : Int) := od
                have q315 : x5_1 < (l1.length : Int) := od
                obtain ⟨ad315, e315, hx315_0, hx315_1, hx315_2, hx315_3, hx315_4, hx315_5⟩ := at_T130 HR1.out x5_1 p315 q315
                have hw315_5 := hx315_5
                have hw315_4 := hx315_4
                have hw315_3 := hx315_3
                have hw315_2 := hx315_2
                have hw315_1 := hx315_1
                have hw315_0 := hx315_0
                cases e315
                replace hx315_0 := bc hx315_0
                replace hx315_1 := bc hx315_1
                replace hx315_2 := bc hx315_2
                replace hx315_3 := bc hx315_3
                replace hx315_4 := bc hx315_4
                replace hx315_5 := bc hx315_5
                replace p315 := eq_true p315
                replace q315 := eq_true q315
                refine start_ (n := 10) (S := fun w' => w'.cell? (ad314.add ((x5_1).toNat * 6)) = some (.int .i64 ((rd_T130 l0 x5_1).f0.f0)) ∧ w'.cell? ⟨(ad314.add ((x5_1).toNat * 6)).block, (ad314.add ((x5_1).toNat * 6)).off + 1, none⟩ = some (.int .i64 ((rd_T130 l0 x5_1).f0.f1)) ∧ w'.cell? ⟨(ad314.add ((x5_1).toNat * 6)).block, (ad314.add ((x5_1).toNat * 6)).off + 2, none⟩ = some (.int .i64 ((rd_T130 l0 x5_1).f0.f2)) ∧ w'.cell? ⟨(ad314.add ((x5_1).toNat * 6)).block, (ad314.add ((x5_1).toNat * 6)).off + 3, none⟩ = some (.int .i64 ((rd_T130 l0 x5_1).f1.f0)) ∧ w'.cell? ⟨(ad314.add ((x5_1).toNat * 6)).block, (ad314.add ((x5_1).toNat * 6)).off + 4, none⟩ = some (.int .i64 ((rd_T130 l0 x5_1).f1.f1)) ∧ w'.cell? ⟨(ad314.add ((x5_1).toNat * 6)).block, (ad314.add ((x5_1).toNat * 6)).off + 5, none⟩ = some (.int .i64 ((rd_T130 l0 x5_1).f1.f2)) ∧ w'.cell? (ad315.add ((x5_1).toNat * 6)) = some (.int .i64 ((rd_T130 l1 x5_1).f0.f0)) ∧ w'.cell? ⟨(ad315.add ((x5_1).toNat * 6)).block, (ad315.add ((x5_1).toNat * 6)).off + 1, none⟩ = some (.int .i64 ((rd_T130 l1 x5_1).f0.f1)) ∧ w'.cell? ⟨(ad315.add ((x5_1).toNat * 6)).block, (ad315.add ((x5_1).toNat * 6)).off + 2, none⟩ = some (.int .i64 ((rd_T130 l1 x5_1).f0.f2)) ∧ w'.cell? ⟨(ad315.add ((x5_1).toNat * 6)).block, (ad315.add ((x5_1).toNat * 6)).off + 3, none⟩ = some (.int .i64 ((rd_T130 l1 x5_1).f1.f0)) ∧ w'.cell? ⟨(ad315.add ((x5_1).toNat * 6)).block, (ad315.add ((x5_1).toNat * 6)).off + 4, none⟩ = some (.int .i64 ((rd_T130 l1 x5_1).f1.f1)) ∧ w'.cell? ⟨(ad315.add ((x5_1).toNat * 6)).block, (ad315.add ((x5_1).toNat * 6)).off + 5, none⟩ = some (.int .i64 ((rd_T130 l1 x5_1).f1.f2))) (ds := []) #[false, false, false, false, false, false, false, false, false, false] (by kernel_rfl) rfl rfl ⟨(bc hw314_0), (bc hw314_1), (bc hw314_2), (bc hw314_3), (bc hw314_4), (bc hw314_5), (bc hw315_0), (bc hw315_1), (bc hw315_2), (bc hw315_3), (bc hw315_4), (bc hw315_5)⟩ (fun hHeld => ?_); refine with_tabW laws_eqPointS.tab6 laws_eqPointS.bits6 (fun HT_ HW_ => ?_)
                generalize wr.drew = w9 at HB hx314_0 hx314_1 hx314_2 hx314_3 hx314_4 hx314_5 hx315_0 hx315_1 hx315_2 hx315_3 hx315_4 hx315_5 hHeld ⊢
                refine pure_ (i := 0) (N := some 17) (v := ?_) (a' := ?_) #[true, false, false, false, false, false, false, false, false, false] rfl rfl (any_of HT_.out (by kernel_rfl)) (fun _ _ _ h => h) (Or.inl ⟨by rfl, ?_⟩) ?_ ?_
                rotate_left
                · intro w'
                  go_simp
                  with_reducible rfl
                rotate_left
                · simp only [Act.put, List.setIfInBounds_toArray, List.set_cons_zero, List.set_cons_succ, i64_w, i32_w]
                  rfl
                refine pure_ (i := 1) (N := some 18) (v := ?_) (a' := ?_) #[true, true, false, false, false, false, false, false, false, false] rfl rfl (any_of HT_.out (by kernel_rfl)) (fun _ _ _ h => h) (Or.inl ⟨by rfl, ?_⟩) ?_ ?_
                rotate_left
                · intro w'
                  go_simp
                  with_reducible rfl
                rotate_left
                · simp only [Act.put, List.setIfInBounds_toArray, List.set_cons_zero, List.set_cons_succ, i64_w, i32_w]
                  rfl
                refine pure_ (i := 2) (N := some 19) (v := ?_) (a' := ?_) #[true, true, true, false, false, false, false, false, false, false] rfl rfl (any_of HT_.out (by kernel_rfl)) (fun _ _ _ h => h) (Or.inl ⟨by rfl, ?_⟩) ?_ ?_
                rotate_left
                · intro w'
                  go_simp
                  with_reducible rfl
                rotate_left
                · simp only [Act.put, List.setIfInBounds_toArray, List.set_cons_zero, List.set_cons_succ, i64_w, i32_w]
                  rfl
                refine pure_ (i := 4) (N := some 21) (v := ?_) (a' := ?_) #[true, true, true, false, true, false, false, false, false, false] rfl rfl (any_of HT_.out (by kernel_rfl)) (fun _ _ _ h => h) (Or.inl ⟨by rfl, ?_⟩) ?_ ?_
                rotate_left
                · intro w'
                  go_simp
                  with_reducible rfl
                rotate_left
                · simp only [Act.put, List.setIfInBounds_toArray, List.set_cons_zero, List.set_cons_succ, i64_w, i32_w]
                  rfl
                refine pure_ (i := 5) (N := some 22) (v := ?_) (a' := ?_) #[true, true, true, false, true, true, false, false, false, false] rfl rfl (any_of HT_.out (by kernel_rfl)) (fun _ _ _ h => h) (Or.inl ⟨by rfl, ?_⟩) ?_ ?_
                rotate_left
                · intro w'
                  go_simp
                  with_reducible rfl
                rotate_left
                · simp only [Act.put, List.setIfInBounds_toArray, List.set_cons_zero, List.set_cons_succ, i64_w, i32_w]
                  rfl
                refine pure_ (i := 6) (N := some 23) (v := ?_) (a' := ?_) #[true, true, true, false, true, true, true, false, false, false] rfl rfl (any_of HT_.out (by kernel_rfl)) (fun _ _ _ h => h) (Or.inl ⟨by rfl, ?_⟩) ?_ ?_
                rotate_left
                · intro w'
                  go_simp
                  with_reducible rfl
                rotate_left
                · simp only [Act.put, List.setIfInBounds_toArray, List.set_cons_zero, List.set_cons_succ, i64_w, i32_w]
                  rfl
                refine take_ (i := 3) (N := some 20) (v := ?_) (a' := ?_) #[true, true, true, true, true, true, true, false, false, false] rfl rfl (take_ofW HT_.out HW_.out (by kernel_rfl)) (fun _ _ _ h => h) (Or.inl ⟨by rfl, ?_⟩) hHeld ?_ ?_
                rotate_left
                · rintro w' ⟨s0, s1, s2, s3, s4, s5, s6, s7, s8, s9, s10, s11⟩
                  go_simp
                  with_reducible rfl
                rotate_left
                · simp only [Act.put, List.setIfInBounds_toArray, List.set_cons_zero, List.set_cons_succ, i64_w, i32_w]
                  rfl
                refine take_ (i := 7) (N := some 24) (v := ?_) (a' := ?_) #[true, true, true, true, true, true, true, true, false, false] rfl rfl (take_ofW HT_.out HW_.out (by kernel_rfl)) (fun _ _ _ h => h) (Or.inl ⟨by rfl, ?_⟩) hHeld ?_ ?_
                rotate_left
                · rintro w' ⟨s0, s1, s2, s3, s4, s5, s6, s7, s8, s9, s10, s11⟩
                  go_simp
                  with_reducible rfl
                rotate_left
                · simp only [Act.put, List.setIfInBounds_toArray, List.set_cons_zero, List.set_cons_succ, i64_w, i32_w]
                  rfl
                refine one_ (i := 8) (N := some 25) #[true, true, true, true, true, true, true, true, true, false] rfl rfl (one_of HT_.out (by kernel_rfl)) (by decide) (fun K hK => ?_)
                refine goes_ Try.func150 (by kernel_rfl) rfl #[.agg #[.int .i64 ((rd_T130 l0 x5_1).f0.f0), .int .i64 ((rd_T130 l0 x5_1).f0.f1), .int .i64 ((rd_T130 l0 x5_1).f0.f2), .int .i64 ((rd_T130 l0 x5_1).f1.f0), .int .i64 ((rd_T130 l0 x5_1).f1.f1), .int .i64 ((rd_T130 l0 x5_1).f1.f2)], .agg #[.int .i64 ((rd_T130 l1 x5_1).f0.f0), .int .i64 ((rd_T130 l1 x5_1).f0.f1), .int .i64 ((rd_T130 l1 x5_1).f0.f2), .int .i64 ((rd_T130 l1 x5_1).f1.f0), .int .i64 ((rd_T130 l1 x5_1).f1.f1), .int .i64 ((rd_T130 l1 x5_1).f1.f2)]] (by rfl) rfl rfl (by (try simp only [List.map_toArray, List.map_cons, List.map_nil]); first | done | rfl | (simp only [List.length_drop, List.length_take]; rfl)) ?_
                with_reducible refine (laws_eqPoint.calls ((rd_T130 l0 x5_1).f0.f0) ((rd_T130 l0 x5_1).f0.f1) ((rd_T130 l0 x5_1).f0.f2) ((rd_T130 l0 x5_1).f1.f0) ((rd_T130 l0 x5_1).f1.f1) ((rd_T130 l0 x5_1).f1.f2) ((rd_T130 l1 x5_1).f0.f0) ((rd_T130 l1 x5_1).f0.f1) ((rd_T130 l1 x5_1).f0.f2) ((rd_T130 l1 x5_1).f1.f0) ((rd_T130 l1 x5_1).f1.f1) ((rd_T130 l1 x5_1).f1.f2) true _ A7.out).mono ?_
                rintro e w10 ⟨rfl, hb⟩
                refine ⟨_, rfl, ?_⟩
                replace HB := bs hb
                (try clear hb)
                (try clear hb2)
                (try clear hk)
                (try clear hi)
                refine hK.out _ _ ⟨(bc hw314_0), (bc hw314_1), (bc hw314_2), (bc hw314_3), (bc hw314_4), (bc hw314_5), (bc hw315_0), (bc hw315_1), (bc hw315_2), (bc hw315_3), (bc hw315_4), (bc hw315_5)⟩ (fun hHeld => ?_)
                clear hK K
                refine norm_ (a' := ?_) ?_ ?_
                rotate_left
                · show Act.put _ (some 25) _ = _
                  simp only [Act.put, List.setIfInBounds_toArray, List.set_cons_zero, List.set_cons_succ, i64_w, i32_w]
                  rfl
                refine pure_ (i := 9) (N := some 26) (v := ?_) (a' := ?_) #[true, true, true, true, true, true, true, true, true, true] rfl rfl (any_of HT_.out (by kernel_rfl)) (fun _ _ _ h => h) (Or.inl ⟨by rfl, ?_⟩) ?_ ?_
                rotate_left
                · intro w'
                  go_simp
                  with_reducible rfl
                rotate_left
                · simp only [Act.put, List.setIfInBounds_toArray, List.set_cons_zero, List.set_cons_succ, i64_w, i32_w]
                  rfl
                refine done_ (done_of HT_.out (by kernel_rfl)) ?_
                try go_wp2
                go_roundg k1
                case measure => have := HK1.out; omega
                case rel => exact ⟨(wrap64 (x5_1 + 1)), (by first | rfl | (simp; done) | (simp [*]; done)), H', ⟨by have := HK1.out; omega⟩, ⟨bw⟩⟩
              · replace c8 := Bool.eq_false_iff.mpr c8
                subst c8
                rw [if_neg nf] at H
                obtain rfl := Option.some.inj H
                try go_wp2
                replace HB := Aside0.mk (below_drew1 HB.out)
                have p314 : 0 ≤ (x5_1 : Int) := od
                have q314 : x5_1 < (l0.length : Int) := od
                obtain ⟨ad314, e314, hx314_0, hx314_1, hx314_2, hx314_3, hx314_4, hx314_5⟩ := at_T130 HR0.out x5_1 p314 q314
                have hw314_5 := hx314_5
                have hw314_4 := hx314_4
                have hw314_3 := hx314_3
                have hw314_2 := hx314_2
                have hw314_1 := hx314_1
                have hw314_0 := hx314_0
                cases e314
                replace hx314_0 := bc hx314_0
                replace hx314_1 := bc hx314_1
                replace hx314_2 := bc hx314_2
                replace hx314_3 := bc hx314_3
                replace hx314_4 := bc hx314_4
                replace hx314_5 := bc hx314_5
                replace p314 := eq_true p314
                replace q314 := eq_true q314
                have p315 : 0 ≤ (x5_1 : Int) := od
                have q315 : x5_1 < (l1.length : Int) := od
                obtain ⟨ad315, e315, hx315_0, hx315_1, hx315_2, hx315_3, hx315_4, hx315_5⟩ := at_T130 HR1.out x5_1 p315 q315
                have hw315_5 := hx315_5
                have hw315_4 := hx315_4
                have hw315_3 := hx315_3
                have hw315_2 := hx315_2
                have hw315_1 := hx315_1
                have hw315_0 := hx315_0
                cases e315
                replace hx315_0 := bc hx315_0
                replace hx315_1 := bc hx315_1
                replace hx315_2 := bc hx315_2
                replace hx315_3 := bc hx315_3
                replace hx315_4 := bc hx315_4
                replace hx315_5 := bc hx315_5
                replace p315 := eq_true p315
                replace q315 := eq_true q315
                refine start_ (n := 10) (S := fun w' => w'.cell? (ad314.add ((x5_1).toNat * 6)) = some (.int .i64 ((rd_T130 l0 x5_1).f0.f0)) ∧ w'.cell? ⟨(ad314.add ((x5_1).toNat * 6)).block, (ad314.add ((x5_1).toNat * 6)).off + 1, none⟩ = some (.int .i64 ((rd_T130 l0 x5_1).f0.f1)) ∧ w'.cell? ⟨(ad314.add ((x5_1).toNat * 6)).block, (ad314.add ((x5_1).toNat * 6)).off + 2, none⟩ = some (.int .i64 ((rd_T130 l0 x5_1).f0.f2)) ∧ w'.cell? ⟨(ad314.add ((x5_1).toNat * 6)).block, (ad314.add ((x5_1).toNat * 6)).off + 3, none⟩ = some (.int .i64 ((rd_T130 l0 x5_1).f1.f0)) ∧ w'.cell? ⟨(ad314.add ((x5_1).toNat * 6)).block, (ad314.add ((x5_1).toNat * 6)).off + 4, none⟩ = some (.int .i64 ((rd_T130 l0 x5_1).f1.f1)) ∧ w'.cell? ⟨(ad314.add ((x5_1).toNat * 6)).block, (ad314.add ((x5_1).toNat * 6)).off + 5, none⟩ = some (.int .i64 ((rd_T130 l0 x5_1).f1.f2)) ∧ w'.cell? (ad315.add ((x5_1).toNat * 6)) = some (.int .i64 ((rd_T130 l1 x5_1).f0.f0)) ∧ w'.cell? ⟨(ad315.add ((x5_1).toNat * 6)).block, (ad315.add ((x5_1).toNat * 6)).off + 1, none⟩ = some (.int .i64 ((rd_T130 l1 x5_1).f0.f1)) ∧ w'.cell? ⟨(ad315.add ((x5_1).toNat * 6)).block, (ad315.add ((x5_1).toNat * 6)).off + 2, none⟩ = some (.int .i64 ((rd_T130 l1 x5_1).f0.f2)) ∧ w'.cell? ⟨(ad315.add ((x5_1).toNat * 6)).block, (ad315.add ((x5_1).toNat * 6)).off + 3, none⟩ = some (.int .i64 ((rd_T130 l1 x5_1).f1.f0)) ∧ w'.cell? ⟨(ad315.add ((x5_1).toNat * 6)).block, (ad315.add ((x5_1).toNat * 6)).off + 4, none⟩ = some (.int .i64 ((rd_T130 l1 x5_1).f1.f1)) ∧ w'.cell? ⟨(ad315.add ((x5_1).toNat * 6)).block, (ad315.add ((x5_1).toNat * 6)).off + 5, none⟩ = some (.int .i64 ((rd_T130 l1 x5_1).f1.f2))) (ds := []) #[false, false, false, false, false, false, false, false, false, false] (by kernel_rfl) rfl rfl ⟨(bc hw314_0), (bc hw314_1), (bc hw314_2), (bc hw314_3), (bc hw314_4), (bc hw314_5), (bc hw315_0), (bc hw315_1), (bc hw315_2), (bc hw315_3), (bc hw315_4), (bc hw315_5)⟩ (fun hHeld => ?_); refine with_tabW laws_eqPointS.tab6 laws_eqPointS.bits6 (fun HT_ HW_ => ?_)
                generalize wr.drew = w11 at HB hx314_0 hx314_1 hx314_2 hx314_3 hx314_4 hx314_5 hx315_0 hx315_1 hx315_2 hx315_3 hx315_4 hx315_5 hHeld ⊢
                refine pure_ (i := 0) (N := some 17) (v := ?_) (a' := ?_) #[true, false, false, false, false, false, false, false, false, false] rfl rfl (any_of HT_.out (by kernel_rfl)) (fun _ _ _ h => h) (Or.inl ⟨by rfl, ?_⟩) ?_ ?_
                rotate_left
                · intro w'
                  go_simp
                  with_reducible rfl
                rotate_left
                · simp only [Act.put, List.setIfInBounds_toArray, List.set_cons_zero, List.set_cons_succ, i64_w, i32_w]
                  rfl
                refine pure_ (i := 1) (N := some 18) (v := ?_) (a' := ?_) #[true, true, false, false, false, false, false, false, false, false] rfl rfl (any_of HT_.out (by kernel_rfl)) (fun _ _ _ h => h) (Or.inl ⟨by rfl, ?_⟩) ?_ ?_
                rotate_left
                · intro w'
                  go_simp
                  with_reducible rfl
                rotate_left
                · simp only [Act.put, List.setIfInBounds_toArray, List.set_cons_zero, List.set_cons_succ, i64_w, i32_w]
                  rfl
                refine pure_ (i := 2) (N := some 19) (v := ?_) (a' := ?_) #[true, true, true, false, false, false, false, false, false, false] rfl rfl (any_of HT_.out (by kernel_rfl)) (fun _ _ _ h => h) (Or.inl ⟨by rfl, ?_⟩) ?_ ?_
                rotate_left
                · intro w'
                  go_simp
                  with_reducible rfl
                rotate_left
                · simp only [Act.put, List.setIfInBounds_toArray, List.set_cons_zero, List.set_cons_succ, i64_w, i32_w]
                  rfl
                refine pure_ (i := 4) (N := some 21) (v := ?_) (a' := ?_) #[true, true, true, false, true, false, false, false, false, false] rfl rfl (any_of HT_.out (by kernel_rfl)) (fun _ _ _ h => h) (Or.inl ⟨by rfl, ?_⟩) ?_ ?_
                rotate_left
                · intro w'
                  go_simp
                  with_reducible rfl
                rotate_left
                · simp only [Act.put, List.setIfInBounds_toArray, List.set_cons_zero, List.set_cons_succ, i64_w, i32_w]
                  rfl
                refine pure_ (i := 5) (N := some 22) (v := ?_) (a' := ?_) #[true, true, true, false, true, true, false, false, false, false] rfl rfl (any_of HT_.out (by kernel_rfl)) (fun _ _ _ h => h) (Or.inl ⟨by rfl, ?_⟩) ?_ ?_
                rotate_left
                · intro w'
                  go_simp
                  with_reducible rfl
                rotate_left
                · simp only [Act.put, List.setIfInBounds_toArray, List.set_cons_zero, List.set_cons_succ, i64_w, i32_w]
                  rfl
                refine pure_ (i := 6) (N := some 23) (v := ?_) (a' := ?_) #[true, true, true, false, true, true, true, false, false, false] rfl rfl (any_of HT_.out (by kernel_rfl)) (fun _ _ _ h => h) (Or.inl ⟨by rfl, ?_⟩) ?_ ?_
                rotate_left
                · intro w'
                  go_simp
                  with_reducible rfl
                rotate_left
                · simp only [Act.put, List.setIfInBounds_toArray, List.set_cons_zero, List.set_cons_succ, i64_w, i32_w]
                  rfl
                refine take_ (i := 3) (N := some 20) (v := ?_) (a' := ?_) #[true, true, true, true, true, true, true, false, false, false] rfl rfl (take_ofW HT_.out HW_.out (by kernel_rfl)) (fun _ _ _ h => h) (Or.inl ⟨by rfl, ?_⟩) hHeld ?_ ?_
                rotate_left
                · rintro w' ⟨s0, s1, s2, s3, s4, s5, s6, s7, s8, s9, s10, s11⟩
                  go_simp
                  with_reducible rfl
                rotate_left
                · simp only [Act.put, List.setIfInBounds_toArray, List.set_cons_zero, List.set_cons_succ, i64_w, i32_w]
                  rfl
                refine take_ (i := 7) (N := some 24) (v := ?_) (a' := ?_) #[true, true, true, true, true, true, true, true, false, false] rfl rfl (take_ofW HT_.out HW_.out (by kernel_rfl)) (fun _ _ _ h => h) (Or.inl ⟨by rfl, ?_⟩) hHeld ?_ ?_
                rotate_left
                · rintro w' ⟨s0, s1, s2, s3, s4, s5, s6, s7, s8, s9, s10, s11⟩
                  go_simp
                  with_reducible rfl
                rotate_left
                · simp only [Act.put, List.setIfInBounds_toArray, List.set_cons_zero, List.set_cons_succ, i64_w, i32_w]
                  rfl
                refine one_ (i := 8) (N := some 25) #[true, true, true, true, true, true, true, true, true, false] rfl rfl (one_of HT_.out (by kernel_rfl)) (by decide) (fun K hK => ?_)
                refine goes_ Try.func150 (by kernel_rfl) rfl #[.agg #[.int .i64 ((rd_T130 l0 x5_1).f0.f0), .int .i64 ((rd_T130 l0 x5_1).f0.f1), .int .i64 ((rd_T130 l0 x5_1).f0.f2), .int .i64 ((rd_T130 l0 x5_1).f1.f0), .int .i64 ((rd_T130 l0 x5_1).f1.f1), .int .i64 ((rd_T130 l0 x5_1).f1.f2)], .agg #[.int .i64 ((rd_T130 l1 x5_1).f0.f0), .int .i64 ((rd_T130 l1 x5_1).f0.f1), .int .i64 ((rd_T130 l1 x5_1).f0.f2), .int .i64 ((rd_T130 l1 x5_1).f1.f0), .int .i64 ((rd_T130 l1 x5_1).f1.f1), .int .i64 ((rd_T130 l1 x5_1).f1.f2)]] (by rfl) rfl rfl (by (try simp only [List.map_toArray, List.map_cons, List.map_nil]); first | done | rfl | (simp only [List.length_drop, List.length_take]; rfl)) ?_
                with_reducible refine (laws_eqPoint.calls ((rd_T130 l0 x5_1).f0.f0) ((rd_T130 l0 x5_1).f0.f1) ((rd_T130 l0 x5_1).f0.f2) ((rd_T130 l0 x5_1).f1.f0) ((rd_T130 l0 x5_1).f1.f1) ((rd_T130 l0 x5_1).f1.f2) ((rd_T130 l1 x5_1).f0.f0) ((rd_T130 l1 x5_1).f0.f1) ((rd_T130 l1 x5_1).f0.f2) ((rd_T130 l1 x5_1).f1.f0) ((rd_T130 l1 x5_1).f1.f1) ((rd_T130 l1 x5_1).f1.f2) false _ A7.out).mono ?_
                rintro e w12 ⟨rfl, hb⟩
                refine ⟨_, rfl, ?_⟩
                replace HB := bs hb
                (try clear hb)
                (try clear hb2)
                (try clear hk)
                (try clear hi)
                refine hK.out _ _ ⟨(bc hw314_0), (bc hw314_1), (bc hw314_2), (bc hw314_3), (bc hw314_4), (bc hw314_5), (bc hw315_0), (bc hw315_1), (bc hw315_2), (bc hw315_3), (bc hw315_4), (bc hw315_5)⟩ (fun hHeld => ?_)
                clear hK K
                refine norm_ (a' := ?_) ?_ ?_
                rotate_left
                · show Act.put _ (some 25) _ = _
                  simp only [Act.put, List.setIfInBounds_toArray, List.set_cons_zero, List.set_cons_succ, i64_w, i32_w]
                  rfl
                refine pure_ (i := 9) (N := some 26) (v := ?_) (a' := ?_) #[true, true, true, true, true, true, true, true, true, true] rfl rfl (any_of HT_.out (by kernel_rfl)) (fun _ _ _ h => h) (Or.inl ⟨by rfl, ?_⟩) ?_ ?_
                rotate_left
                · intro w'
                  go_simp
                  with_reducible rfl
                rotate_left
                · simp only [Act.put, List.setIfInBounds_toArray, List.set_cons_zero, List.set_cons_succ, i64_w, i32_w]
                  rfl
                refine done_ (done_of HT_.out (by kernel_rfl)) ?_
                try go_wp2
                go_ret
                exact ⟨er, bw⟩
            · rw [if_neg c6] at H
              exact absurd H (by simp)
          · rw [if_neg c5] at H
            exact absurd H (by simp)
        · rw [if_neg c4] at H
          have c4b0 : decide (x5_1 < (l0.length : Int)) = false := decide_eq_false c4
          clear c4
          obtain rfl := Option.some.inj H
          go_wp2
          go_ret
          exact ⟨er, bw⟩
  · rw [if_neg c3] at H
    have c3b0 : ((l0.length : Int) == (l1.length : Int)) = false := beq_eq_false_iff_ne.mpr c3
    have c3b1 : ((l0.length : Int) != (l1.length : Int)) = true := bne_iff_ne.mpr c3
    have c3b2 : (l0.length == l1.length) = false := by first | simpa using c3 | (simp at c3 ⊢; omega)
    obtain rfl := Option.some.inj H
    go_enter Try.func97, Try.ntmps97
    go_wp2
    go_ret
    exact ⟨er, bw⟩

/-! ### laws_eqMotion: function 186 -/
def laws_eqMotion.f (a0_0 : Int) (a0_1 : Bool) (a0_2 : Int) (a0_3 : Int) (a0_4 : Int) (a0_5 : Int) (a0_6 : Int) (a0_7 : Int) (a1_0 : Int) (a1_1 : Bool) (a1_2 : Int) (a1_3 : Int) (a1_4 : Int) (a1_5 : Int) (a1_6 : Int) (a1_7 : Int) : Option (Bool) := if a0_0 = a1_0 then (if (a0_1 != a1_1) = true then (some false) else ((laws_eqNum.f a0_2 a0_3 a0_4 a1_2 a1_3 a1_4).bind fun t319 => (if t319 = true then ((laws_eqNum.f a0_5 a0_6 a0_7 a1_5 a1_6 a1_7).bind fun t320 => (if t320 = true then (some true) else (some false))) else (some false)))) else (some false)
set_option maxHeartbeats 8000000 in
set_option maxRecDepth 100000 in
theorem laws_eqMotion.calls (a0_0 : Int) (a0_1 : Bool) (a0_2 : Int) (a0_3 : Int) (a0_4 : Int) (a0_5 : Int) (a0_6 : Int) (a0_7 : Int) (a1_0 : Int) (a1_1 : Bool) (a1_2 : Int) (a1_3 : Int) (a1_4 : Int) (a1_5 : Int) (a1_6 : Int) (a1_7 : Int) (r : Bool) (w : World) (h : laws_eqMotion.f a0_0 a0_1 a0_2 a0_3 a0_4 a0_5 a0_6 a0_7 a1_0 a1_1 a1_2 a1_3 a1_4 a1_5 a1_6 a1_7 = some r) :
    Calls Try.prog 186 #[.agg #[.int .i64 a0_0, .bool a0_1, .int .i64 a0_2, .int .i64 a0_3, .int .i64 a0_4, .int .i64 a0_5, .int .i64 a0_6, .int .i64 a0_7], .agg #[.int .i64 a1_0, .bool a1_1, .int .i64 a1_2, .int .i64 a1_3, .int .i64 a1_4, .int .i64 a1_5, .int .i64 a1_6, .int .i64 a1_7]] w fun e w' => e = .returned (.bool r) ∧ Below w.heap.size w w' := by
  have hu118 := Try.underlying118
  have hu94 := Try.underlying94
  have HB := Aside0.mk (Below.refl w.heap.size w)
  have H : (if a0_0 = a1_0 then (if (a0_1 != a1_1) = true then (some false) else ((laws_eqNum.f a0_2 a0_3 a0_4 a1_2 a1_3 a1_4).bind fun t319 => (if t319 = true then ((laws_eqNum.f a0_5 a0_6 a0_7 a1_5 a1_6 a1_7).bind fun t320 => (if t320 = true then (some true) else (some false))) else (some false)))) else (some false)) = some r := h
  clear h
  by_cases c3 : a0_0 = a1_0
  · rw [if_pos c3] at H
    have c3b0 : (a0_0 == a1_0) = true := beq_iff_eq.mpr c3
    have c3b1 : (a0_0 != a1_0) = false := bne_eq_false_iff_eq.mpr c3
    clear c3
    by_cases c4 : (a0_1 != a1_1) = true
    · rw [if_pos c4] at H
      have c4b0 : (a0_1 != a1_1) = true := c4
      (try (have c4b1 : decide (a0_1 = a1_1) = false := by simpa using c4))
      (try (have c4b2 : (a0_1 == a1_1) = false := by simpa using c4))
      (try (have c4b3 : ¬ (a0_1 = a1_1) := by simpa using c4))
      clear c4
      obtain rfl := Option.some.inj H
      go_enter Try.func186, Try.ntmps186
      go_wp2_with (first | ((with_reducible refine gate_dst (N := 2) rfl ?_); refine bx #[.int .i64 a0_0, .bool a0_1, .int .i64 a0_2, .int .i64 a0_3, .int .i64 a0_4, .int .i64 a0_5, .int .i64 a0_6, .int .i64 a0_7] 118 ?_; intro gb317 hg w5 hbox hb; have BK317 := Aside0.mk hbox; have GW317 := bg hg; have GE317 := bg hg; replace HB := bs hb; clear hb hbox hg) | ((with_reducible refine gate_dst (N := 3) rfl ?_); refine bx #[.int .i64 a1_0, .bool a1_1, .int .i64 a1_2, .int .i64 a1_3, .int .i64 a1_4, .int .i64 a1_5, .int .i64 a1_6, .int .i64 a1_7] 118 ?_; intro gb318 hg w6 hbox hb; have BK318 := Aside0.mk hbox; have GW318 := bg hg; have GE318 := bg hg; have NB317_318 := bl BK317 hg; have NB318_317 := bv BK317 hg; replace BK317 := bb BK317 hb; replace HB := bs hb; clear hb hbox hg; have hnb7 := NB317_318.out; have hnc7 := NB318_317.out; obtain ⟨z8_0, z8_1, z8_2, z8_3, z8_4, z8_5, z8_6, z8_7, y8_0, y8_1, y8_2, y8_3, y8_4, y8_5, y8_6, y8_7⟩ := bq8 BK317; obtain ⟨z9_0, z9_1, z9_2, z9_3, z9_4, z9_5, z9_6, z9_7, y9_0, y9_1, y9_2, y9_3, y9_4, y9_5, y9_6, y9_7⟩ := bq8 BK318))
      go_ret
      exact ⟨er, bw⟩
    · rw [if_neg c4] at H
      have c4b0 : (a0_1 != a1_1) = false := by simpa using c4
      (try (have c4b1 : decide (a0_1 = a1_1) = true := by simpa using c4))
      (try (have c4b2 : (a0_1 == a1_1) = true := by simpa using c4))
      clear c4
      replace H := Option.bind_eq_some_iff.mp H
      obtain ⟨t319, A100, H⟩ := H
      replace H : (if t319 = true then ((laws_eqNum.f a0_5 a0_6 a0_7 a1_5 a1_6 a1_7).bind fun t320 => (if t320 = true then (some true) else (some false))) else (some false)) = some r := H
      have A10 := Aside0.mk A100
      clear A100
      by_cases c11 : t319 = true
      · subst c11
        rw [if_pos rfl] at H
        replace H := Option.bind_eq_some_iff.mp H
        obtain ⟨t320, A120, H⟩ := H
        replace H : (if t320 = true then (some true) else (some false)) = some r := H
        have A12 := Aside0.mk A120
        clear A120
        by_cases c13 : t320 = true
        · subst c13
          rw [if_pos rfl] at H
          obtain rfl := Option.some.inj H
          go_enter Try.func186, Try.ntmps186
          go_wp2_with (first | ((with_reducible refine gate_dst (N := 2) rfl ?_); refine bx #[.int .i64 a0_0, .bool a0_1, .int .i64 a0_2, .int .i64 a0_3, .int .i64 a0_4, .int .i64 a0_5, .int .i64 a0_6, .int .i64 a0_7] 118 ?_; intro gb317 hg w14 hbox hb; have BK317 := Aside0.mk hbox; have GW317 := bg hg; have GE317 := bg hg; replace HB := bs hb; clear hb hbox hg) | ((with_reducible refine gate_dst (N := 3) rfl ?_); refine bx #[.int .i64 a1_0, .bool a1_1, .int .i64 a1_2, .int .i64 a1_3, .int .i64 a1_4, .int .i64 a1_5, .int .i64 a1_6, .int .i64 a1_7] 118 ?_; intro gb318 hg w15 hbox hb; have BK318 := Aside0.mk hbox; have GW318 := bg hg; have GE318 := bg hg; have NB317_318 := bl BK317 hg; have NB318_317 := bv BK317 hg; replace BK317 := bb BK317 hb; replace HB := bs hb; clear hb hbox hg; have hnb16 := NB317_318.out; have hnc16 := NB318_317.out; obtain ⟨z17_0, z17_1, z17_2, z17_3, z17_4, z17_5, z17_6, z17_7, y17_0, y17_1, y17_2, y17_3, y17_4, y17_5, y17_6, y17_7⟩ := bq8 BK317; obtain ⟨z18_0, z18_1, z18_2, z18_3, z18_4, z18_5, z18_6, z18_7, y18_0, y18_1, y18_2, y18_3, y18_4, y18_5, y18_6, y18_7⟩ := bq8 BK318) | ((with_reducible refine gate_callee (f := 185) rfl ?_); refine gl (some 19) Try.func185 #[.agg #[.int .i64 a0_2, .int .i64 a0_3, .int .i64 a0_4], .agg #[.int .i64 a1_2, .int .i64 a1_3, .int .i64 a1_4]] ?_; (with_reducible refine (laws_eqNum.calls a0_2 a0_3 a0_4 a1_2 a1_3 a1_4 true _ A10.out).mono ?_); rintro e w19 ⟨rfl, hb⟩; refine ⟨_, rfl, ?_⟩; replace BK317 := bb BK317 hb; replace BK318 := bb BK318 hb; replace HB := bs hb; (try clear hb); (try clear hb2); (try clear hk); (try clear hi); obtain ⟨z20_0, z20_1, z20_2, z20_3, z20_4, z20_5, z20_6, z20_7, y20_0, y20_1, y20_2, y20_3, y20_4, y20_5, y20_6, y20_7⟩ := bq8 BK317; obtain ⟨z21_0, z21_1, z21_2, z21_3, z21_4, z21_5, z21_6, z21_7, y21_0, y21_1, y21_2, y21_3, y21_4, y21_5, y21_6, y21_7⟩ := bq8 BK318) | ((with_reducible refine gate_callee (f := 185) rfl ?_); refine gl (some 25) Try.func185 #[.agg #[.int .i64 a0_5, .int .i64 a0_6, .int .i64 a0_7], .agg #[.int .i64 a1_5, .int .i64 a1_6, .int .i64 a1_7]] ?_; (with_reducible refine (laws_eqNum.calls a0_5 a0_6 a0_7 a1_5 a1_6 a1_7 true _ A12.out).mono ?_); rintro e w22 ⟨rfl, hb⟩; refine ⟨_, rfl, ?_⟩; replace BK317 := bb BK317 hb; replace BK318 := bb BK318 hb; replace HB := bs hb; (try clear hb); (try clear hb2); (try clear hk); (try clear hi)))
          go_ret
          exact ⟨er, bw⟩
        · replace c13 := Bool.eq_false_iff.mpr c13
          subst c13
          rw [if_neg nf] at H
          obtain rfl := Option.some.inj H
          go_enter Try.func186, Try.ntmps186
          go_wp2_with (first | ((with_reducible refine gate_dst (N := 2) rfl ?_); refine bx #[.int .i64 a0_0, .bool a0_1, .int .i64 a0_2, .int .i64 a0_3, .int .i64 a0_4, .int .i64 a0_5, .int .i64 a0_6, .int .i64 a0_7] 118 ?_; intro gb317 hg w23 hbox hb; have BK317 := Aside0.mk hbox; have GW317 := bg hg; have GE317 := bg hg; replace HB := bs hb; clear hb hbox hg) | ((with_reducible refine gate_dst (N := 3) rfl ?_); refine bx #[.int .i64 a1_0, .bool a1_1, .int .i64 a1_2, .int .i64 a1_3, .int .i64 a1_4, .int .i64 a1_5, .int .i64 a1_6, .int .i64 a1_7] 118 ?_; intro gb318 hg w24 hbox hb; have BK318 := Aside0.mk hbox; have GW318 := bg hg; have GE318 := bg hg; have NB317_318 := bl BK317 hg; have NB318_317 := bv BK317 hg; replace BK317 := bb BK317 hb; replace HB := bs hb; clear hb hbox hg; have hnb25 := NB317_318.out; have hnc25 := NB318_317.out; obtain ⟨z26_0, z26_1, z26_2, z26_3, z26_4, z26_5, z26_6, z26_7, y26_0, y26_1, y26_2, y26_3, y26_4, y26_5, y26_6, y26_7⟩ := bq8 BK317; obtain ⟨z27_0, z27_1, z27_2, z27_3, z27_4, z27_5, z27_6, z27_7, y27_0, y27_1, y27_2, y27_3, y27_4, y27_5, y27_6, y27_7⟩ := bq8 BK318) | ((with_reducible refine gate_callee (f := 185) rfl ?_); refine gl (some 19) Try.func185 #[.agg #[.int .i64 a0_2, .int .i64 a0_3, .int .i64 a0_4], .agg #[.int .i64 a1_2, .int .i64 a1_3, .int .i64 a1_4]] ?_; (with_reducible refine (laws_eqNum.calls a0_2 a0_3 a0_4 a1_2 a1_3 a1_4 true _ A10.out).mono ?_); rintro e w28 ⟨rfl, hb⟩; refine ⟨_, rfl, ?_⟩; replace BK317 := bb BK317 hb; replace BK318 := bb BK318 hb; replace HB := bs hb; (try clear hb); (try clear hb2); (try clear hk); (try clear hi); obtain ⟨z29_0, z29_1, z29_2, z29_3, z29_4, z29_5, z29_6, z29_7, y29_0, y29_1, y29_2, y29_3, y29_4, y29_5, y29_6, y29_7⟩ := bq8 BK317; obtain ⟨z30_0, z30_1, z30_2, z30_3, z30_4, z30_5, z30_6, z30_7, y30_0, y30_1, y30_2, y30_3, y30_4, y30_5, y30_6, y30_7⟩ := bq8 BK318) | ((with_reducible refine gate_callee (f := 185) rfl ?_); refine gl (some 25) Try.func185 #[.agg #[.int .i64 a0_5, .int .i64 a0_6, .int .i64 a0_7], .agg #[.int .i64 a1_5, .int .i64 a1_6, .int .i64 a1_7]] ?_; (with_reducible refine (laws_eqNum.calls a0_5 a0_6 a0_7 a1_5 a1_6 a1_7 false _ A12.out).mono ?_); rintro e w31 ⟨rfl, hb⟩; refine ⟨_, rfl, ?_⟩; replace BK317 := bb BK317 hb; replace BK318 := bb BK318 hb; replace HB := bs hb; (try clear hb); (try clear hb2); (try clear hk); (try clear hi)))
          go_ret
          exact ⟨er, bw⟩
      · replace c11 := Bool.eq_false_iff.mpr c11
        subst c11
        rw [if_neg nf] at H
        obtain rfl := Option.some.inj H
        go_enter Try.func186, Try.ntmps186
        go_wp2_with (first | ((with_reducible refine gate_dst (N := 2) rfl ?_); refine bx #[.int .i64 a0_0, .bool a0_1, .int .i64 a0_2, .int .i64 a0_3, .int .i64 a0_4, .int .i64 a0_5, .int .i64 a0_6, .int .i64 a0_7] 118 ?_; intro gb317 hg w32 hbox hb; have BK317 := Aside0.mk hbox; have GW317 := bg hg; have GE317 := bg hg; replace HB := bs hb; clear hb hbox hg) | ((with_reducible refine gate_dst (N := 3) rfl ?_); refine bx #[.int .i64 a1_0, .bool a1_1, .int .i64 a1_2, .int .i64 a1_3, .int .i64 a1_4, .int .i64 a1_5, .int .i64 a1_6, .int .i64 a1_7] 118 ?_; intro gb318 hg w33 hbox hb; have BK318 := Aside0.mk hbox; have GW318 := bg hg; have GE318 := bg hg; have NB317_318 := bl BK317 hg; have NB318_317 := bv BK317 hg; replace BK317 := bb BK317 hb; replace HB := bs hb; clear hb hbox hg; have hnb34 := NB317_318.out; have hnc34 := NB318_317.out; obtain ⟨z35_0, z35_1, z35_2, z35_3, z35_4, z35_5, z35_6, z35_7, y35_0, y35_1, y35_2, y35_3, y35_4, y35_5, y35_6, y35_7⟩ := bq8 BK317; obtain ⟨z36_0, z36_1, z36_2, z36_3, z36_4, z36_5, z36_6, z36_7, y36_0, y36_1, y36_2, y36_3, y36_4, y36_5, y36_6, y36_7⟩ := bq8 BK318) | ((with_reducible refine gate_callee (f := 185) rfl ?_); refine gl (some 19) Try.func185 #[.agg #[.int .i64 a0_2, .int .i64 a0_3, .int .i64 a0_4], .agg #[.int .i64 a1_2, .int .i64 a1_3, .int .i64 a1_4]] ?_; (with_reducible refine (laws_eqNum.calls a0_2 a0_3 a0_4 a1_2 a1_3 a1_4 false _ A10.out).mono ?_); rintro e w37 ⟨rfl, hb⟩; refine ⟨_, rfl, ?_⟩; replace BK317 := bb BK317 hb; replace BK318 := bb BK318 hb; replace HB := bs hb; (try clear hb); (try clear hb2); (try clear hk); (try clear hi)))
        go_ret
        exact ⟨er, bw⟩
  · rw [if_neg c3] at H
    have c3b0 : (a0_0 == a1_0) = false := beq_eq_false_iff_ne.mpr c3
    have c3b1 : (a0_0 != a1_0) = true := bne_iff_ne.mpr c3
    obtain rfl := Option.some.inj H
    go_enter Try.func186, Try.ntmps186
    go_wp2_with (first | ((with_reducible refine gate_dst (N := 2) rfl ?_); refine bx #[.int .i64 a0_0, .bool a0_1, .int .i64 a0_2, .int .i64 a0_3, .int .i64 a0_4, .int .i64 a0_5, .int .i64 a0_6, .int .i64 a0_7] 118 ?_; intro gb317 hg w38 hbox hb; have BK317 := Aside0.mk hbox; have GW317 := bg hg; have GE317 := bg hg; replace HB := bs hb; clear hb hbox hg) | ((with_reducible refine gate_dst (N := 3) rfl ?_); refine bx #[.int .i64 a1_0, .bool a1_1, .int .i64 a1_2, .int .i64 a1_3, .int .i64 a1_4, .int .i64 a1_5, .int .i64 a1_6, .int .i64 a1_7] 118 ?_; intro gb318 hg w39 hbox hb; have BK318 := Aside0.mk hbox; have GW318 := bg hg; have GE318 := bg hg; have NB317_318 := bl BK317 hg; have NB318_317 := bv BK317 hg; replace BK317 := bb BK317 hb; replace HB := bs hb; clear hb hbox hg; have hnb40 := NB317_318.out; have hnc40 := NB318_317.out; obtain ⟨z41_0, z41_1, z41_2, z41_3, z41_4, z41_5, z41_6, z41_7, y41_0, y41_1, y41_2, y41_3, y41_4, y41_5, y41_6, y41_7⟩ := bq8 BK317; obtain ⟨z42_0, z42_1, z42_2, z42_3, z42_4, z42_5, z42_6, z42_7, y42_0, y42_1, y42_2, y42_3, y42_4, y42_5, y42_6, y42_7⟩ := bq8 BK318))
    go_ret
    exact ⟨er, bw⟩

/-! ### laws_eqFace: function 151 -/
def laws_eqFace.f (k : Nat) (l0_0 : List (S130)) (a0_1 : Int) (a0_2 : Bool) (a0_3 : Int) (a0_4 : Int) (a0_5 : Int) (a0_6 : Int) (a0_7 : Int) (a0_8 : Int) (l1_0 : List (S130)) (a1_1 : Int) (a1_2 : Bool) (a1_3 : Int) (a1_4 : Int) (a1_5 : Int) (a1_6 : Int) (a1_7 : Int) (a1_8 : Int) : Option (Bool) := (laws_eqPointS.f k l0_0 l1_0).bind fun t323 => (if t323 = true then ((laws_eqMotion.f a0_1 a0_2 a0_3 a0_4 a0_5 a0_6 a0_7 a0_8 a1_1 a1_2 a1_3 a1_4 a1_5 a1_6 a1_7 a1_8).bind fun t324 => (if t324 = true then (some true) else (some false))) else (some false))
theorem laws_eqFace.mono : ∀ a0 a1 a2 a3 a4 a5 a6 a7 a8 a9 a10 a11 a12 a13 a14 a15 a16 a17 k, LeO (laws_eqFace.f k a0 a1 a2 a3 a4 a5 a6 a7 a8 a9 a10 a11 a12 a13 a14 a15 a16 a17) (laws_eqFace.f (k + 1) a0 a1 a2 a3 a4 a5 a6 a7 a8 a9 a10 a11 a12 a13 a14 a15 a16 a17) := by
  intro a0 a1 a2 a3 a4 a5 a6 a7 a8 a9 a10 a11 a12 a13 a14 a15 a16 a17 k
  unfold laws_eqFace.f
  repeat' first
      | (with_reducible exact laws_eqPointS.mono _ _ _)
      | (with_reducible exact LeO.refl _)
      | (with_reducible exact LeO.none _)
      | (with_reducible refine LeO.ite ?_ ?_)
      | (with_reducible refine LeO.bind ?_ (fun _ => ?_))
      | exact laws_eqPointS.mono _ _ _
      | exact LeO.none _
      | refine LeO.ite ?_ ?_
      | refine LeO.bind ?_ (fun _ => ?_)
set_option maxHeartbeats 8000000 in
set_option maxRecDepth 100000 in
theorem laws_eqFace.calls (k : Nat) (A0_0 : Option Addr) (c0_0 : Nat) (l0_0 : List (S130)) (a0_1 : Int) (a0_2 : Bool) (a0_3 : Int) (a0_4 : Int) (a0_5 : Int) (a0_6 : Int) (a0_7 : Int) (a0_8 : Int) (A1_0 : Option Addr) (c1_0 : Nat) (l1_0 : List (S130)) (a1_1 : Int) (a1_2 : Bool) (a1_3 : Int) (a1_4 : Int) (a1_5 : Int) (a1_6 : Int) (a1_7 : Int) (a1_8 : Int) (r : Bool) (w : World) (hr0_0 : Kd.C k130 w A0_0 l0_0.length l0_0) (hc0_0 : l0_0.length ≤ c0_0) (hr1_0 : Kd.C k130 w A1_0 l1_0.length l1_0) (hc1_0 : l1_0.length ≤ c1_0) (h : laws_eqFace.f k l0_0 a0_1 a0_2 a0_3 a0_4 a0_5 a0_6 a0_7 a0_8 l1_0 a1_1 a1_2 a1_3 a1_4 a1_5 a1_6 a1_7 a1_8 = some r) :
    Calls Try.prog 151 #[.agg #[.slice A0_0 l0_0.length c0_0, .int .i64 a0_1, .bool a0_2, .int .i64 a0_3, .int .i64 a0_4, .int .i64 a0_5, .int .i64 a0_6, .int .i64 a0_7, .int .i64 a0_8], .agg #[.slice A1_0 l1_0.length c1_0, .int .i64 a1_1, .bool a1_2, .int .i64 a1_3, .int .i64 a1_4, .int .i64 a1_5, .int .i64 a1_6, .int .i64 a1_7, .int .i64 a1_8]] w fun e w' => e = .returned (.bool r) ∧ Below w.heap.size w w' := by
  have hu121 := Try.underlying121
  have hu118 := Try.underlying118
  have HR0_0 := Aside0.mk hr0_0
  have HC0_0 := Aside0.mk hc0_0
  clear hr0_0 hc0_0
  have HR1_0 := Aside0.mk hr1_0
  have HC1_0 := Aside0.mk hc1_0
  clear hr1_0 hc1_0
  have HB := Aside0.mk (Below.refl w.heap.size w)
  have H : ((laws_eqPointS.f k l0_0 l1_0).bind fun t323 => (if t323 = true then ((laws_eqMotion.f a0_1 a0_2 a0_3 a0_4 a0_5 a0_6 a0_7 a0_8 a1_1 a1_2 a1_3 a1_4 a1_5 a1_6 a1_7 a1_8).bind fun t324 => (if t324 = true then (some true) else (some false))) else (some false))) = some r := h
  clear h
  replace H := Option.bind_eq_some_iff.mp H
  obtain ⟨t323, A30, H⟩ := H
  replace H : (if t323 = true then ((laws_eqMotion.f a0_1 a0_2 a0_3 a0_4 a0_5 a0_6 a0_7 a0_8 a1_1 a1_2 a1_3 a1_4 a1_5 a1_6 a1_7 a1_8).bind fun t324 => (if t324 = true then (some true) else (some false))) else (some false)) = some r := H
  have A3 := Aside0.mk A30
  clear A30
  by_cases c4 : t323 = true
  · subst c4
    rw [if_pos rfl] at H
    replace H := Option.bind_eq_some_iff.mp H
    obtain ⟨t324, A50, H⟩ := H
    replace H : (if t324 = true then (some true) else (some false)) = some r := H
    have A5 := Aside0.mk A50
    clear A50
    by_cases c6 : t324 = true
    · subst c6
      rw [if_pos rfl] at H
      obtain rfl := Option.some.inj H
      go_enter Try.func151, Try.ntmps151
      go_wp2_with (first | ((with_reducible refine gate_dst (N := 2) rfl ?_); refine bx #[.slice A0_0 l0_0.length c0_0, .int .i64 a0_1, .bool a0_2, .int .i64 a0_3, .int .i64 a0_4, .int .i64 a0_5, .int .i64 a0_6, .int .i64 a0_7, .int .i64 a0_8] 121 ?_; intro gb321 hg w7 hbox hb; have BK321 := Aside0.mk hbox; have GW321 := bg hg; have GE321 := bg hg; replace HB := bs hb; clear hb hbox hg) | ((with_reducible refine gate_dst (N := 3) rfl ?_); refine bx #[.slice A1_0 l1_0.length c1_0, .int .i64 a1_1, .bool a1_2, .int .i64 a1_3, .int .i64 a1_4, .int .i64 a1_5, .int .i64 a1_6, .int .i64 a1_7, .int .i64 a1_8] 121 ?_; intro gb322 hg w8 hbox hb; have BK322 := Aside0.mk hbox; have GW322 := bg hg; have GE322 := bg hg; have NB321_322 := bl BK321 hg; have NB322_321 := bv BK321 hg; replace BK321 := bb BK321 hb; replace HB := bs hb; clear hb hbox hg; have hnb9 := NB321_322.out; have hnc9 := NB322_321.out; obtain ⟨z10_0, z10_1, z10_2, z10_3, z10_4, z10_5, z10_6, z10_7, z10_8, y10_0, y10_1, y10_2, y10_3, y10_4, y10_5, y10_6, y10_7, y10_8⟩ := bq9 BK321; obtain ⟨z11_0, z11_1, z11_2, z11_3, z11_4, z11_5, z11_6, z11_7, z11_8, y11_0, y11_1, y11_2, y11_3, y11_4, y11_5, y11_6, y11_7, y11_8⟩ := bq9 BK322) | ((with_reducible refine gate_callee (f := 97) rfl ?_); refine gl (some 9) Try.func97 #[.slice A0_0 l0_0.length c0_0, .slice A1_0 l1_0.length c1_0] ?_; (with_reducible refine (laws_eqPointS.calls k _ _ l0_0 _ _ l1_0 true _ ?side1 ?side2 ?side3 ?side4 A3.out).mono ?_); (case side1 => exact sd HR0_0); (case side2 => exact HC0_0.out); (case side3 => exact sd HR1_0); (case side4 => exact HC1_0.out); rintro e w12 ⟨rfl, hb⟩; refine ⟨_, rfl, ?_⟩; replace BK321 := bb BK321 hb; replace BK322 := bb BK322 hb; replace HB := bs hb; (try clear hb); (try clear hb2); (try clear hk); (try clear hi); obtain ⟨z13_0, z13_1, z13_2, z13_3, z13_4, z13_5, z13_6, z13_7, z13_8, y13_0, y13_1, y13_2, y13_3, y13_4, y13_5, y13_6, y13_7, y13_8⟩ := bq9 BK321; obtain ⟨z14_0, z14_1, z14_2, z14_3, z14_4, z14_5, z14_6, z14_7, z14_8, y14_0, y14_1, y14_2, y14_3, y14_4, y14_5, y14_6, y14_7, y14_8⟩ := bq9 BK322) | ((with_reducible refine gate_callee (f := 186) rfl ?_); refine gl (some 15) Try.func186 #[.agg #[.int .i64 a0_1, .bool a0_2, .int .i64 a0_3, .int .i64 a0_4, .int .i64 a0_5, .int .i64 a0_6, .int .i64 a0_7, .int .i64 a0_8], .agg #[.int .i64 a1_1, .bool a1_2, .int .i64 a1_3, .int .i64 a1_4, .int .i64 a1_5, .int .i64 a1_6, .int .i64 a1_7, .int .i64 a1_8]] ?_; (with_reducible refine (laws_eqMotion.calls a0_1 a0_2 a0_3 a0_4 a0_5 a0_6 a0_7 a0_8 a1_1 a1_2 a1_3 a1_4 a1_5 a1_6 a1_7 a1_8 true _ A5.out).mono ?_); rintro e w15 ⟨rfl, hb⟩; refine ⟨_, rfl, ?_⟩; replace BK321 := bb BK321 hb; replace BK322 := bb BK322 hb; replace HB := bs hb; (try clear hb); (try clear hb2); (try clear hk); (try clear hi)))
      go_ret
      exact ⟨er, bw⟩
    · replace c6 := Bool.eq_false_iff.mpr c6
      subst c6
      rw [if_neg nf] at H
      obtain rfl := Option.some.inj H
      go_enter Try.func151, Try.ntmps151
      go_wp2_with (first | ((with_reducible refine gate_dst (N := 2) rfl ?_); refine bx #[.slice A0_0 l0_0.length c0_0, .int .i64 a0_1, .bool a0_2, .int .i64 a0_3, .int .i64 a0_4, .int .i64 a0_5, .int .i64 a0_6, .int .i64 a0_7, .int .i64 a0_8] 121 ?_; intro gb321 hg w16 hbox hb; have BK321 := Aside0.mk hbox; have GW321 := bg hg; have GE321 := bg hg; replace HB := bs hb; clear hb hbox hg) | ((with_reducible refine gate_dst (N := 3) rfl ?_); refine bx #[.slice A1_0 l1_0.length c1_0, .int .i64 a1_1, .bool a1_2, .int .i64 a1_3, .int .i64 a1_4, .int .i64 a1_5, .int .i64 a1_6, .int .i64 a1_7, .int .i64 a1_8] 121 ?_; intro gb322 hg w17 hbox hb; have BK322 := Aside0.mk hbox; have GW322 := bg hg; have GE322 := bg hg; have NB321_322 := bl BK321 hg; have NB322_321 := bv BK321 hg; replace BK321 := bb BK321 hb; replace HB := bs hb; clear hb hbox hg; have hnb18 := NB321_322.out; have hnc18 := NB322_321.out; obtain ⟨z19_0, z19_1, z19_2, z19_3, z19_4, z19_5, z19_6, z19_7, z19_8, y19_0, y19_1, y19_2, y19_3, y19_4, y19_5, y19_6, y19_7, y19_8⟩ := bq9 BK321; obtain ⟨z20_0, z20_1, z20_2, z20_3, z20_4, z20_5, z20_6, z20_7, z20_8, y20_0, y20_1, y20_2, y20_3, y20_4, y20_5, y20_6, y20_7, y20_8⟩ := bq9 BK322) | ((with_reducible refine gate_callee (f := 97) rfl ?_); refine gl (some 9) Try.func97 #[.slice A0_0 l0_0.length c0_0, .slice A1_0 l1_0.length c1_0] ?_; (with_reducible refine (laws_eqPointS.calls k _ _ l0_0 _ _ l1_0 true _ ?side1 ?side2 ?side3 ?side4 A3.out).mono ?_); (case side1 => exact sd HR0_0); (case side2 => exact HC0_0.out); (case side3 => exact sd HR1_0); (case side4 => exact HC1_0.out); rintro e w21 ⟨rfl, hb⟩; refine ⟨_, rfl, ?_⟩; replace BK321 := bb BK321 hb; replace BK322 := bb BK322 hb; replace HB := bs hb; (try clear hb); (try clear hb2); (try clear hk); (try clear hi); obtain ⟨z22_0, z22_1, z22_2, z22_3, z22_4, z22_5, z22_6, z22_7, z22_8, y22_0, y22_1, y22_2, y22_3, y22_4, y22_5, y22_6, y22_7, y22_8⟩ := bq9 BK321; obtain ⟨z23_0, z23_1, z23_2, z23_3, z23_4, z23_5, z23_6, z23_7, z23_8, y23_0, y23_1, y23_2, y23_3, y23_4, y23_5, y23_6, y23_7, y23_8⟩ := bq9 BK322) | ((with_reducible refine gate_callee (f := 186) rfl ?_); refine gl (some 15) Try.func186 #[.agg #[.int .i64 a0_1, .bool a0_2, .int .i64 a0_3, .int .i64 a0_4, .int .i64 a0_5, .int .i64 a0_6, .int .i64 a0_7, .int .i64 a0_8], .agg #[.int .i64 a1_1, .bool a1_2, .int .i64 a1_3, .int .i64 a1_4, .int .i64 a1_5, .int .i64 a1_6, .int .i64 a1_7, .int .i64 a1_8]] ?_; (with_reducible refine (laws_eqMotion.calls a0_1 a0_2 a0_3 a0_4 a0_5 a0_6 a0_7 a0_8 a1_1 a1_2 a1_3 a1_4 a1_5 a1_6 a1_7 a1_8 false _ A5.out).mono ?_); rintro e w24 ⟨rfl, hb⟩; refine ⟨_, rfl, ?_⟩; replace BK321 := bb BK321 hb; replace BK322 := bb BK322 hb; replace HB := bs hb; (try clear hb); (try clear hb2); (try clear hk); (try clear hi)))
      go_ret
      exact ⟨er, bw⟩
  · replace c4 := Bool.eq_false_iff.mpr c4
    subst c4
    rw [if_neg nf] at H
    obtain rfl := Option.some.inj H
    go_enter Try.func151, Try.ntmps151
    go_wp2_with (first | ((with_reducible refine gate_dst (N := 2) rfl ?_); refine bx #[.slice A0_0 l0_0.length c0_0, .int .i64 a0_1, .bool a0_2, .int .i64 a0_3, .int .i64 a0_4, .int .i64 a0_5, .int .i64 a0_6, .int .i64 a0_7, .int .i64 a0_8] 121 ?_; intro gb321 hg w25 hbox hb; have BK321 := Aside0.mk hbox; have GW321 := bg hg; have GE321 := bg hg; replace HB := bs hb; clear hb hbox hg) | ((with_reducible refine gate_dst (N := 3) rfl ?_); refine bx #[.slice A1_0 l1_0.length c1_0, .int .i64 a1_1, .bool a1_2, .int .i64 a1_3, .int .i64 a1_4, .int .i64 a1_5, .int .i64 a1_6, .int .i64 a1_7, .int .i64 a1_8] 121 ?_; intro gb322 hg w26 hbox hb; have BK322 := Aside0.mk hbox; have GW322 := bg hg; have GE322 := bg hg; have NB321_322 := bl BK321 hg; have NB322_321 := bv BK321 hg; replace BK321 := bb BK321 hb; replace HB := bs hb; clear hb hbox hg; have hnb27 := NB321_322.out; have hnc27 := NB322_321.out; obtain ⟨z28_0, z28_1, z28_2, z28_3, z28_4, z28_5, z28_6, z28_7, z28_8, y28_0, y28_1, y28_2, y28_3, y28_4, y28_5, y28_6, y28_7, y28_8⟩ := bq9 BK321; obtain ⟨z29_0, z29_1, z29_2, z29_3, z29_4, z29_5, z29_6, z29_7, z29_8, y29_0, y29_1, y29_2, y29_3, y29_4, y29_5, y29_6, y29_7, y29_8⟩ := bq9 BK322) | ((with_reducible refine gate_callee (f := 97) rfl ?_); refine gl (some 9) Try.func97 #[.slice A0_0 l0_0.length c0_0, .slice A1_0 l1_0.length c1_0] ?_; (with_reducible refine (laws_eqPointS.calls k _ _ l0_0 _ _ l1_0 false _ ?side1 ?side2 ?side3 ?side4 A3.out).mono ?_); (case side1 => exact sd HR0_0); (case side2 => exact HC0_0.out); (case side3 => exact sd HR1_0); (case side4 => exact HC1_0.out); rintro e w30 ⟨rfl, hb⟩; refine ⟨_, rfl, ?_⟩; replace BK321 := bb BK321 hb; replace BK322 := bb BK322 hb; replace HB := bs hb; (try clear hb); (try clear hb2); (try clear hk); (try clear hi)))
    go_ret
    exact ⟨er, bw⟩

end Go.Proofs.Yteadienaeapaeaa.PT
