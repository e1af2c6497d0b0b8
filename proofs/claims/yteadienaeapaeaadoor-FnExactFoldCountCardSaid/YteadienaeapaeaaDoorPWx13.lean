-- Made by a program of this session (myprint.py) out of the translation.
import Derived.Test.YteadienaeapaeaaDoorPWx0
import Derived.Test.YteadienaeapaeaaDoorPWx3
import Derived.Test.YteadienaeapaeaaDoorPWx4
import Derived.Test.YteadienaeapaeaaDoorPWx7
import Derived.Test.YteadienaeapaeaaDoorPWx12
import Derived.Test.YteadienaeapaeaaDoorShort
namespace Go.Proofs.YteadienaeapaeaaDoor.PW
open Go.Proofs.YteadienaeapaeaaDoor.Short
open Go.Proofs.YteadienaeapaeaaDoor.Dyn
open Go.RowKit Go.Proofs.YteadienaeapaeaaDoorW.PrintWords Go.Proofs.YteadienaeapaeaaDoorW.PrintLast Go.Proofs.YteadienaeapaeaaDoorW.PrintMore
attribute [local go_sem] max2_int min2_int max_two min_two max_three min_three max_four min_four   -- for this text's walks alone
set_option linter.unusedVariables false
set_option linter.unusedSimpArgs false

/-! ### laws_FnExactFoldCount: function 5 -/
def laws_FnExactFoldCount.f (k : Nat) (l0 : List (S27)) : Option (Bool) := (laws_szStepS.f k l0 1048576).bind fun t220 => (if t220 < 0 then (some true) else ((laws_toStepS.f k l0).bind fun t221 => ((spec_FoldCount.f k t221).bind fun t224 => ((laws_toStepS.f k l0).bind fun t225 => ((impl_FoldCount.f k t225).bind fun t228 => (if t228 = t224 then ((laws_toStepS.f k l0).bind fun t229 => ((laws_eqStepS.f k t225 t229).bind fun t232 => (if t232 = true then (some true) else (some false)))) else (some false)))))))
theorem laws_FnExactFoldCount.mono : ∀ a0 k, LeO (laws_FnExactFoldCount.f k a0) (laws_FnExactFoldCount.f (k + 1) a0) := by
  intro a0 k
  unfold laws_FnExactFoldCount.f
  repeat' first
      | (with_reducible exact impl_FoldCount.mono _ _)
      | (with_reducible exact laws_eqStepS.mono _ _ _)
      | (with_reducible exact laws_szStepS.mono _ _ _)
      | (with_reducible exact laws_toStepS.mono _ _)
      | (with_reducible exact spec_FoldCount.mono _ _)
      | (with_reducible exact LeO.refl _)
      | (with_reducible exact LeO.none _)
      | (with_reducible refine LeO.ite ?_ ?_)
      | (with_reducible refine LeO.bind ?_ (fun _ => ?_))
      | exact impl_FoldCount.mono _ _
      | exact laws_eqStepS.mono _ _ _
      | exact laws_szStepS.mono _ _ _
      | exact laws_toStepS.mono _ _
      | exact spec_FoldCount.mono _ _
      | exact LeO.none _
      | refine LeO.ite ?_ ?_
      | refine LeO.bind ?_ (fun _ => ?_)
set_option maxHeartbeats 8000000 in
set_option maxRecDepth 100000 in
theorem laws_FnExactFoldCount.calls (k : Nat) (A0 : Option Addr) (c0 : Nat) (l0 : List (S27)) (r : Bool) (w : World) (hr0 : Kd.C k27 w A0 l0.length l0) (hc0 : l0.length ≤ c0) (h : laws_FnExactFoldCount.f k l0 = some r) :
    Calls Tryd.prog 5 #[.slice A0 l0.length c0] w fun e w' => e = .returned (.bool r) ∧ Below w.heap.size w w' := by
  have HR0 := Aside0.mk hr0
  have HC0 := Aside0.mk hc0
  clear hr0 hc0
  have HB := Aside0.mk (Below.refl w.heap.size w)
  have H : ((laws_szStepS.f k l0 1048576).bind fun t220 => (if t220 < 0 then (some true) else ((laws_toStepS.f k l0).bind fun t221 => ((spec_FoldCount.f k t221).bind fun t224 => ((laws_toStepS.f k l0).bind fun t225 => ((impl_FoldCount.f k t225).bind fun t228 => (if t228 = t224 then ((laws_toStepS.f k l0).bind fun t229 => ((laws_eqStepS.f k t225 t229).bind fun t232 => (if t232 = true then (some true) else (some false)))) else (some false)))))))) = some r := h
  clear h
  replace H := Option.bind_eq_some_iff.mp H
  obtain ⟨t220, A20, H⟩ := H
  replace H : (if t220 < 0 then (some true) else ((laws_toStepS.f k l0).bind fun t221 => ((spec_FoldCount.f k t221).bind fun t224 => ((laws_toStepS.f k l0).bind fun t225 => ((impl_FoldCount.f k t225).bind fun t228 => (if t228 = t224 then ((laws_toStepS.f k l0).bind fun t229 => ((laws_eqStepS.f k t225 t229).bind fun t232 => (if t232 = true then (some true) else (some false)))) else (some false))))))) = some r := H
  have A2 := Aside0.mk A20
  clear A20
  by_cases c3 : t220 < 0
  · rw [if_pos c3] at H
    have c3b0 : decide (t220 < 0) = true := decide_eq_true c3
    clear c3
    obtain rfl := Option.some.inj H
    go_enter Tryd.func5, Tryd.ntmps5
    go_wp2_with (first | ((with_reducible refine gate_callee (f := 15) rfl ?_); refine gl (some 9) Tryd.func15 #[.slice A0 l0.length c0, .int .i64 1048576] ?_; (with_reducible refine (laws_szStepS.calls k _ _ l0 1048576 t220 _ ?side1 ?side2 A2.out).mono ?_); (case side1 => repeat (first | exact HR0.out | (with_reducible refine Kd.C_alloc ?_ _) | (with_reducible refine Kd.C_drewN ?_ _) | (with_reducible refine Kd.C_drew ?_))); (case side2 => exact HC0.out); rintro e w4 ⟨rfl, hb⟩; refine ⟨_, rfl, ?_⟩; replace HB := bs hb; (try clear hb); (try clear hb2); (try clear hk); (try clear hi)))
    go_ret
    exact ⟨er, bw⟩
  · rw [if_neg c3] at H
    have c3b0 : decide (t220 < 0) = false := decide_eq_false c3
    clear c3
    replace H := Option.bind_eq_some_iff.mp H
    obtain ⟨t221, A50, H⟩ := H
    replace H : ((spec_FoldCount.f k t221).bind fun t224 => ((laws_toStepS.f k l0).bind fun t225 => ((impl_FoldCount.f k t225).bind fun t228 => (if t228 = t224 then ((laws_toStepS.f k l0).bind fun t229 => ((laws_eqStepS.f k t225 t229).bind fun t232 => (if t232 = true then (some true) else (some false)))) else (some false))))) = some r := H
    have A5 := Aside0.mk A50
    clear A50
    replace H := Option.bind_eq_some_iff.mp H
    obtain ⟨t224, A60, H⟩ := H
    replace H : ((laws_toStepS.f k l0).bind fun t225 => ((impl_FoldCount.f k t225).bind fun t228 => (if t228 = t224 then ((laws_toStepS.f k l0).bind fun t229 => ((laws_eqStepS.f k t225 t229).bind fun t232 => (if t232 = true then (some true) else (some false)))) else (some false)))) = some r := H
    have A6 := Aside0.mk A60
    clear A60
    replace H := Option.bind_eq_some_iff.mp H
    obtain ⟨t225, A70, H⟩ := H
    replace H : ((impl_FoldCount.f k t225).bind fun t228 => (if t228 = t224 then ((laws_toStepS.f k l0).bind fun t229 => ((laws_eqStepS.f k t225 t229).bind fun t232 => (if t232 = true then (some true) else (some false)))) else (some false))) = some r := H
    have A7 := Aside0.mk A70
    clear A70
    replace H := Option.bind_eq_some_iff.mp H
    obtain ⟨t228, A80, H⟩ := H
    replace H : (if t228 = t224 then ((laws_toStepS.f k l0).bind fun t229 => ((laws_eqStepS.f k t225 t229).bind fun t232 => (if t232 = true then (some true) else (some false)))) else (some false)) = some r := H
    have A8 := Aside0.mk A80
    clear A80
    by_cases c9 : t228 = t224
    · rw [if_pos c9] at H
      have c9b0 : (t228 == t224) = true := beq_iff_eq.mpr c9
      have c9b1 : (t228 != t224) = false := bne_eq_false_iff_eq.mpr c9
      clear c9
      replace H := Option.bind_eq_some_iff.mp H
      obtain ⟨t229, A100, H⟩ := H
      replace H : ((laws_eqStepS.f k t225 t229).bind fun t232 => (if t232 = true then (some true) else (some false))) = some r := H
      have A10 := Aside0.mk A100
      clear A100
      replace H := Option.bind_eq_some_iff.mp H
      obtain ⟨t232, A110, H⟩ := H
      replace H : (if t232 = true then (some true) else (some false)) = some r := H
      have A11 := Aside0.mk A110
      clear A110
      by_cases c12 : t232 = true
      · subst c12
        rw [if_pos rfl] at H
        obtain rfl := Option.some.inj H
        go_enter Tryd.func5, Tryd.ntmps5
        go_wp2_with (first | ((with_reducible refine gate_callee (f := 15) rfl ?_); refine gl (some 9) Tryd.func15 #[.slice A0 l0.length c0, .int .i64 1048576] ?_; (with_reducible refine (laws_szStepS.calls k _ _ l0 1048576 t220 _ ?side1 ?side2 A2.out).mono ?_); (case side1 => repeat (first | exact HR0.out | (with_reducible refine Kd.C_alloc ?_ _) | (with_reducible refine Kd.C_drewN ?_ _) | (with_reducible refine Kd.C_drew ?_))); (case side2 => exact HC0.out); rintro e w13 ⟨rfl, hb⟩; refine ⟨_, rfl, ?_⟩; replace HB := bs hb; (try clear hb); (try clear hb2); (try clear hk); (try clear hi)) | ((with_reducible refine gate_callee (f := 17) rfl ?_); refine gl (some 13) Tryd.func17 #[.slice A0 l0.length c0] ?_; (with_reducible refine (laws_toStepS.calls k _ _ l0 t221 _ ?side1 ?side2 A5.out).mono ?_); (case side1 => exact sd HR0); (case side2 => exact HC0.out); rintro e w14 ⟨v222, rfl, ho0, hb⟩; refine ⟨_, rfl, ?_⟩; have HO223 := Aside0.mk (Kd.R_lower ho0 (below_size bw)); replace HB := bs hb; (try clear hb); (try clear hb2); (try clear hk); (try clear hi); (try clear ho0); obtain ⟨Ao15, co15, eo15⟩ := Kd.R_slice HO223.out; subst eo15) | ((with_reducible refine gate_callee (f := 20) rfl ?_); refine gl (some 14) Tryd.func20 #[.slice Ao15 t221.length co15] ?_; (with_reducible refine (spec_FoldCount.calls k _ _ t221 t224 _ ?side1 ?side2 A6.out).mono ?_); (case side1 => exact se HO223); (case side2 => exact (Kd.R_reads' HO223.out).2.1); rintro e w16 ⟨rfl, hb⟩; refine ⟨_, rfl, ?_⟩; replace HO223 := Aside0.mk (Kd.R_below (ra (h := HO223.out)) hb); replace HB := bs hb; (try clear hb); (try clear hb2); (try clear hk); (try clear hi)) | ((with_reducible refine gate_callee (f := 17) rfl ?_); refine gl (some 16) Tryd.func17 #[.slice A0 l0.length c0] ?_; (with_reducible refine (laws_toStepS.calls k _ _ l0 t225 _ ?side1 ?side2 A7.out).mono ?_); (case side1 => exact sd HR0); (case side2 => exact HC0.out); rintro e w17 ⟨v226, rfl, ho0, hb⟩; refine ⟨_, rfl, ?_⟩; have HO227 := Aside0.mk (Kd.R_lower (Kd.R_new' ho0 (Kd.R_lt (ra (h := HO223.out)))) (below_size bw)); replace HO223 := Aside0.mk (Kd.R_elder' (ra (h := HO223.out)) (Kd.R_base ho0) hb); replace HB := bs hb; (try clear hb); (try clear hb2); (try clear hk); (try clear hi); (try clear ho0); obtain ⟨Ao18, co18, eo18⟩ := Kd.R_slice HO227.out; subst eo18) | ((with_reducible refine gate_callee (f := 21) rfl ?_); refine gl (some 18) Tryd.func21 #[.slice Ao18 t225.length co18] ?_; (with_reducible refine (impl_FoldCount.calls k _ _ t225 t228 _ ?side1 ?side2 A8.out).mono ?_); (case side1 => exact se HO227); (case side2 => exact (Kd.R_reads' HO227.out).2.1); rintro e w19 ⟨rfl, hb⟩; refine ⟨_, rfl, ?_⟩; replace HO223 := Aside0.mk (Kd.R_below (ra (h := HO223.out)) hb); replace HO227 := Aside0.mk (Kd.R_below (ra (h := HO227.out)) hb); replace HB := bs hb; (try clear hb); (try clear hb2); (try clear hk); (try clear hi)) | ((with_reducible refine gate_callee (f := 17) rfl ?_); refine gl (some 24) Tryd.func17 #[.slice A0 l0.length c0] ?_; (with_reducible refine (laws_toStepS.calls k _ _ l0 t229 _ ?side1 ?side2 A10.out).mono ?_); (case side1 => exact sd HR0); (case side2 => exact HC0.out); rintro e w20 ⟨v230, rfl, ho0, hb⟩; refine ⟨_, rfl, ?_⟩; have HO231 := Aside0.mk (Kd.R_lower (Kd.R_new' (Kd.R_new' ho0 (Kd.R_lt (ra (h := HO223.out)))) (Kd.R_lt (ra (h := HO227.out)))) (below_size bw)); replace HO223 := Aside0.mk (Kd.R_elder' (ra (h := HO223.out)) (Kd.R_base ho0) hb); replace HO227 := Aside0.mk (Kd.R_elder' (ra (h := HO227.out)) (Kd.R_base ho0) hb); replace HB := bs hb; (try clear hb); (try clear hb2); (try clear hk); (try clear hi); (try clear ho0); obtain ⟨Ao21, co21, eo21⟩ := Kd.R_slice HO231.out; subst eo21) | ((with_reducible refine gate_callee (f := 19) rfl ?_); refine gl (some 25) Tryd.func19 #[.slice Ao18 t225.length co18, .slice Ao21 t229.length co21] ?_; (with_reducible refine (laws_eqStepS.calls k _ _ t225 _ _ t229 true _ ?side1 ?side2 ?side3 ?side4 A11.out).mono ?_); (case side1 => exact se HO227); (case side2 => exact (Kd.R_reads' HO227.out).2.1); (case side3 => exact se HO231); (case side4 => exact (Kd.R_reads' HO231.out).2.1); rintro e w22 ⟨rfl, hb⟩; refine ⟨_, rfl, ?_⟩; replace HO223 := Aside0.mk (Kd.R_below (ra (h := HO223.out)) hb); replace HO227 := Aside0.mk (Kd.R_below (ra (h := HO227.out)) hb); replace HO231 := Aside0.mk (Kd.R_below (ra (h := HO231.out)) hb); replace HB := bs hb; (try clear hb); (try clear hb2); (try clear hk); (try clear hi)))
        go_ret
        exact ⟨er, bw⟩
      · replace c12 := Bool.eq_false_iff.mpr c12
        subst c12
        rw [if_neg nf] at H
        obtain rfl := Option.some.inj H
        go_enter Tryd.func5, Tryd.ntmps5
        go_wp2_with (first | ((with_reducible refine gate_callee (f := 15) rfl ?_); refine gl (some 9) Tryd.func15 #[.slice A0 l0.length c0, .int .i64 1048576] ?_; (with_reducible refine (laws_szStepS.calls k _ _ l0 1048576 t220 _ ?side1 ?side2 A2.out).mono ?_); (case side1 => repeat (first | exact HR0.out | (with_reducible refine Kd.C_alloc ?_ _) | (with_reducible refine Kd.C_drewN ?_ _) | (with_reducible refine Kd.C_drew ?_))); (case side2 => exact HC0.out); rintro e w23 ⟨rfl, hb⟩; refine ⟨_, rfl, ?_⟩; replace HB := bs hb; (try clear hb); (try clear hb2); (try clear hk); (try clear hi)) | ((with_reducible refine gate_callee (f := 17) rfl ?_); refine gl (some 13) Tryd.func17 #[.slice A0 l0.length c0] ?_; (with_reducible refine (laws_toStepS.calls k _ _ l0 t221 _ ?side1 ?side2 A5.out).mono ?_); (case side1 => exact sd HR0); (case side2 => exact HC0.out); rintro e w24 ⟨v222, rfl, ho0, hb⟩; refine ⟨_, rfl, ?_⟩; have HO223 := Aside0.mk (Kd.R_lower ho0 (below_size bw)); replace HB := bs hb; (try clear hb); (try clear hb2); (try clear hk); (try clear hi); (try clear ho0); obtain ⟨Ao25, co25, eo25⟩ := Kd.R_slice HO223.out; subst eo25) | ((with_reducible refine gate_callee (f := 20) rfl ?_); refine gl (some 14) Tryd.func20 #[.slice Ao25 t221.length co25] ?_; (with_reducible refine (spec_FoldCount.calls k _ _ t221 t224 _ ?side1 ?side2 A6.out).mono ?_); (case side1 => exact se HO223); (case side2 => exact (Kd.R_reads' HO223.out).2.1); rintro e w26 ⟨rfl, hb⟩; refine ⟨_, rfl, ?_⟩; replace HO223 := Aside0.mk (Kd.R_below (ra (h := HO223.out)) hb); replace HB := bs hb; (try clear hb); (try clear hb2); (try clear hk); (try clear hi)) | ((with_reducible refine gate_callee (f := 17) rfl ?_); refine gl (some 16) Tryd.func17 #[.slice A0 l0.length c0] ?_; (with_reducible refine (laws_toStepS.calls k _ _ l0 t225 _ ?side1 ?side2 A7.out).mono ?_); (case side1 => exact sd HR0); (case side2 => exact HC0.out); rintro e w27 ⟨v226, rfl, ho0, hb⟩; refine ⟨_, rfl, ?_⟩; have HO227 := Aside0.mk (Kd.R_lower (Kd.R_new' ho0 (Kd.R_lt (ra (h := HO223.out)))) (below_size bw)); replace HO223 := Aside0.mk (Kd.R_elder' (ra (h := HO223.out)) (Kd.R_base ho0) hb); replace HB := bs hb; (try clear hb); (try clear hb2); (try clear hk); (try clear hi); (try clear ho0); obtain ⟨Ao28, co28, eo28⟩ := Kd.R_slice HO227.out; subst eo28) | ((with_reducible refine gate_callee (f := 21) rfl ?_); refine gl (some 18) Tryd.func21 #[.slice Ao28 t225.length co28] ?_; (with_reducible refine (impl_FoldCount.calls k _ _ t225 t228 _ ?side1 ?side2 A8.out).mono ?_); (case side1 => exact se HO227); (case side2 => exact (Kd.R_reads' HO227.out).2.1); rintro e w29 ⟨rfl, hb⟩; refine ⟨_, rfl, ?_⟩; replace HO223 := Aside0.mk (Kd.R_below (ra (h := HO223.out)) hb); replace HO227 := Aside0.mk (Kd.R_below (ra (h := HO227.out)) hb); replace HB := bs hb; (try clear hb); (try clear hb2); (try clear hk); (try clear hi)) | ((with_reducible refine gate_callee (f := 17) rfl ?_); refine gl (some 24) Tryd.func17 #[.slice A0 l0.length c0] ?_; (with_reducible refine (laws_toStepS.calls k _ _ l0 t229 _ ?side1 ?side2 A10.out).mono ?_); (case side1 => exact sd HR0); (case side2 => exact HC0.out); rintro e w30 ⟨v230, rfl, ho0, hb⟩; refine ⟨_, rfl, ?_⟩; have HO231 := Aside0.mk (Kd.R_lower (Kd.R_new' (Kd.R_new' ho0 (Kd.R_lt (ra (h := HO223.out)))) (Kd.R_lt (ra (h := HO227.out)))) (below_size bw)); replace HO223 := Aside0.mk (Kd.R_elder' (ra (h := HO223.out)) (Kd.R_base ho0) hb); replace HO227 := Aside0.mk (Kd.R_elder' (ra (h := HO227.out)) (Kd.R_base ho0) hb); replace HB := bs hb; (try clear hb); (try clear hb2); (try clear hk); (try clear hi); (try clear ho0); obtain ⟨Ao31, co31, eo31⟩ := Kd.R_slice HO231.out; subst eo31) | ((with_reducible refine gate_callee (f := 19) rfl ?_); refine gl (some 25) Tryd.func19 #[.slice Ao28 t225.length co28, .slice Ao31 t229.length co31] ?_; (with_reducible refine (laws_eqStepS.calls k _ _ t225 _ _ t229 false _ ?side1 ?side2 ?side3 ?side4 A11.out).mono ?_); (case side1 => exact se HO227); (case side2 => exact (Kd.R_reads' HO227.out).2.1); (case side3 => exact se HO231); (case side4 => exact (Kd.R_reads' HO231.out).2.1); rintro e w32 ⟨rfl, hb⟩; refine ⟨_, rfl, ?_⟩; replace HO223 := Aside0.mk (Kd.R_below (ra (h := HO223.out)) hb); replace HO227 := Aside0.mk (Kd.R_below (ra (h := HO227.out)) hb); replace HO231 := Aside0.mk (Kd.R_below (ra (h := HO231.out)) hb); replace HB := bs hb; (try clear hb); (try clear hb2); (try clear hk); (try clear hi)))
        go_ret
        exact ⟨er, bw⟩
    · rw [if_neg c9] at H
      have c9b0 : (t228 == t224) = false := beq_eq_false_iff_ne.mpr c9
      have c9b1 : (t228 != t224) = true := bne_iff_ne.mpr c9
      obtain rfl := Option.some.inj H
      go_enter Tryd.func5, Tryd.ntmps5
      go_wp2_with (first | ((with_reducible refine gate_callee (f := 15) rfl ?_); refine gl (some 9) Tryd.func15 #[.slice A0 l0.length c0, .int .i64 1048576] ?_; (with_reducible refine (laws_szStepS.calls k _ _ l0 1048576 t220 _ ?side1 ?side2 A2.out).mono ?_); (case side1 => repeat (first | exact HR0.out | (with_reducible refine Kd.C_alloc ?_ _) | (with_reducible refine Kd.C_drewN ?_ _) | (with_reducible refine Kd.C_drew ?_))); (case side2 => exact HC0.out); rintro e w33 ⟨rfl, hb⟩; refine ⟨_, rfl, ?_⟩; replace HB := bs hb; (try clear hb); (try clear hb2); (try clear hk); (try clear hi)) | ((with_reducible refine gate_callee (f := 17) rfl ?_); refine gl (some 13) Tryd.func17 #[.slice A0 l0.length c0] ?_; (with_reducible refine (laws_toStepS.calls k _ _ l0 t221 _ ?side1 ?side2 A5.out).mono ?_); (case side1 => exact sd HR0); (case side2 => exact HC0.out); rintro e w34 ⟨v222, rfl, ho0, hb⟩; refine ⟨_, rfl, ?_⟩; have HO223 := Aside0.mk (Kd.R_lower ho0 (below_size bw)); replace HB := bs hb; (try clear hb); (try clear hb2); (try clear hk); (try clear hi); (try clear ho0); obtain ⟨Ao35, co35, eo35⟩ := Kd.R_slice HO223.out; subst eo35) | ((with_reducible refine gate_callee (f := 20) rfl ?_); refine gl (some 14) Tryd.func20 #[.slice Ao35 t221.length co35] ?_; (with_reducible refine (spec_FoldCount.calls k _ _ t221 t224 _ ?side1 ?side2 A6.out).mono ?_); (case side1 => exact se HO223); (case side2 => exact (Kd.R_reads' HO223.out).2.1); rintro e w36 ⟨rfl, hb⟩; refine ⟨_, rfl, ?_⟩; replace HO223 := Aside0.mk (Kd.R_below (ra (h := HO223.out)) hb); replace HB := bs hb; (try clear hb); (try clear hb2); (try clear hk); (try clear hi)) | ((with_reducible refine gate_callee (f := 17) rfl ?_); refine gl (some 16) Tryd.func17 #[.slice A0 l0.length c0] ?_; (with_reducible refine (laws_toStepS.calls k _ _ l0 t225 _ ?side1 ?side2 A7.out).mono ?_); (case side1 => exact sd HR0); (case side2 => exact HC0.out); rintro e w37 ⟨v226, rfl, ho0, hb⟩; refine ⟨_, rfl, ?_⟩; have HO227 := Aside0.mk (Kd.R_lower (Kd.R_new' ho0 (Kd.R_lt (ra (h := HO223.out)))) (below_size bw)); replace HO223 := Aside0.mk (Kd.R_elder' (ra (h := HO223.out)) (Kd.R_base ho0) hb); replace HB := bs hb; (try clear hb); (try clear hb2); (try clear hk); (try clear hi); (try clear ho0); obtain ⟨Ao38, co38, eo38⟩ := Kd.R_slice HO227.out; subst eo38) | ((with_reducible refine gate_callee (f := 21) rfl ?_); refine gl (some 18) Tryd.func21 #[.slice Ao38 t225.length co38] ?_; (with_reducible refine (impl_FoldCount.calls k _ _ t225 t228 _ ?side1 ?side2 A8.out).mono ?_); (case side1 => exact se HO227); (case side2 => exact (Kd.R_reads' HO227.out).2.1); rintro e w39 ⟨rfl, hb⟩; refine ⟨_, rfl, ?_⟩; replace HO223 := Aside0.mk (Kd.R_below (ra (h := HO223.out)) hb); replace HO227 := Aside0.mk (Kd.R_below (ra (h := HO227.out)) hb); replace HB := bs hb; (try clear hb); (try clear hb2); (try clear hk); (try clear hi)))
      go_ret
      exact ⟨er, bw⟩

end Go.Proofs.YteadienaeapaeaaDoor.PW
