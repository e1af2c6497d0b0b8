-- Made by a program of this session (myprint.py) out of the translation.
import Derived.Test.YteadienaeapaeaaDoorZnoPYx0
import Derived.Test.YteadienaeapaeaaDoorZnoPYx3
import Derived.Test.YteadienaeapaeaaDoorZnoPYx4
import Derived.Test.YteadienaeapaeaaDoorZnoPYx9
import Derived.Test.YteadienaeapaeaaDoorZnoPYx12
import Derived.Test.YteadienaeapaeaaDoorZnoPYx13
import Derived.Test.YteadienaeapaeaaDoorZnoShort
namespace Go.Proofs.YteadienaeapaeaaDoor.PY
open Go.Proofs.YteadienaeapaeaaDoor.Short
open Go.Proofs.YteadienaeapaeaaDoor.Dyn
open Go.RowKit Go.Proofs.YteadienaeapaeaaDoorW.PrintWords Go.Proofs.YteadienaeapaeaaDoorW.PrintLast Go.Proofs.YteadienaeapaeaaDoorW.PrintMore
attribute [local go_sem] max2_int min2_int max_two min_two max_three min_three max_four min_four   -- for this text's walks alone
set_option linter.unusedVariables false
set_option linter.unusedSimpArgs false

/-! ### laws_FnExactNamesOf: function 9 -/
def laws_FnExactNamesOf.j0 : Nat → List (S27) → List ByteArray → List ByteArray → Bool → Option (Bool)
  | 0, _, _, _, _ => none
  | k + 1, x0, x4, x6, x42 => if x42 = true then (some false) else ((laws_markStringS.f k x6 1).bind fun bt264 => ((laws_heldStringS.f k bt264.2 1).bind fun t266 => (if t266 < 0 then (some false) else (if t266 = bt264.1 then ((laws_toStepS.f k x0).bind fun t267 => ((impl_NamesOf.f k t267).bind fun t270 => ((laws_eqStringS.f k t270 x4).bind fun t273 => (if t273 = true then ((laws_heldStringS.f k bt264.2 1).bind fun t274 => (if t274 < 0 then (some false) else (if t274 = bt264.1 then (some true) else (some false)))) else (some false))))) else (some false)))))
def laws_FnExactNamesOf.f (k : Nat) (l0 : List (S27)) : Option (Bool) := (laws_szStepS.f k l0 1048576).bind fun t243 => (if t243 < 0 then (some true) else ((laws_toStepS.f k l0).bind fun t244 => ((spec_NamesOf.f k t244).bind fun t247 => ((laws_toStepS.f k l0).bind fun t250 => ((impl_NamesOf.f k t250).bind fun t253 => ((laws_eqStringS.f k t253 t247).bind fun t256 => (if t256 = true then ((laws_toStepS.f k l0).bind fun t257 => ((laws_eqStepS.f k t250 t257).bind fun t260 => (if t260 = true then ((laws_markStepS.f k t250 1).bind fun bt261 => (if bt261.1 < 0 then (laws_FnExactNamesOf.j0 k l0 t247 t253 true) else ((laws_eqStringS.f k t253 t247).bind fun t263 => (laws_FnExactNamesOf.j0 k l0 t247 t253 (!t263))))) else (some false)))) else (some false))))))))
theorem laws_FnExactNamesOf.mono_l : ∀ k, (∀ y0 y1 y2 y3, LeO (laws_FnExactNamesOf.j0 k y0 y1 y2 y3) (laws_FnExactNamesOf.j0 (k + 1) y0 y1 y2 y3))
  | 0 => fun _ _ _ _ r h => by simp [laws_FnExactNamesOf.j0] at h
  | k + 1 => by
    have ih0 := laws_FnExactNamesOf.mono_l k
    · intro y0 y1 y2 y3
      unfold laws_FnExactNamesOf.j0
      repeat' first
      | (with_reducible exact ih0 _ _ _ _)
      | (with_reducible exact impl_NamesOf.mono _ _)
      | (with_reducible exact laws_eqStepS.mono _ _ _)
      | (with_reducible exact laws_eqStringS.mono _ _ _)
      | (with_reducible exact laws_heldStringS.mono _ _ _)
      | (with_reducible exact laws_markStepS.mono _ _ _)
      | (with_reducible exact laws_markStringS.mono _ _ _)
      | (with_reducible exact laws_szStepS.mono _ _ _)
      | (with_reducible exact laws_toStepS.mono _ _)
      | (with_reducible exact spec_NamesOf.mono _ _)
      | (with_reducible exact LeO.refl _)
      | (with_reducible exact LeO.none _)
      | (with_reducible refine LeO.ite ?_ ?_)
      | (with_reducible refine LeO.bind ?_ (fun _ => ?_))
      | exact ih0 _ _ _ _
      | exact impl_NamesOf.mono _ _
      | exact laws_eqStepS.mono _ _ _
      | exact laws_eqStringS.mono _ _ _
      | exact laws_heldStringS.mono _ _ _
      | exact laws_markStepS.mono _ _ _
      | exact laws_markStringS.mono _ _ _
      | exact laws_szStepS.mono _ _ _
      | exact laws_toStepS.mono _ _
      | exact spec_NamesOf.mono _ _
      | exact LeO.none _
      | refine LeO.ite ?_ ?_
      | refine LeO.bind ?_ (fun _ => ?_)
theorem laws_FnExactNamesOf.mono : ∀ a0 k, LeO (laws_FnExactNamesOf.f k a0) (laws_FnExactNamesOf.f (k + 1) a0) := by
  intro a0 k
  have ih0 := laws_FnExactNamesOf.mono_l k
  unfold laws_FnExactNamesOf.f
  repeat' first
      | (with_reducible exact ih0 _ _ _ _)
      | (with_reducible exact impl_NamesOf.mono _ _)
      | (with_reducible exact laws_eqStepS.mono _ _ _)
      | (with_reducible exact laws_eqStringS.mono _ _ _)
      | (with_reducible exact laws_heldStringS.mono _ _ _)
      | (with_reducible exact laws_markStepS.mono _ _ _)
      | (with_reducible exact laws_markStringS.mono _ _ _)
      | (with_reducible exact laws_szStepS.mono _ _ _)
      | (with_reducible exact laws_toStepS.mono _ _)
      | (with_reducible exact spec_NamesOf.mono _ _)
      | (with_reducible exact LeO.refl _)
      | (with_reducible exact LeO.none _)
      | (with_reducible refine LeO.ite ?_ ?_)
      | (with_reducible refine LeO.bind ?_ (fun _ => ?_))
      | exact ih0 _ _ _ _
      | exact impl_NamesOf.mono _ _
      | exact laws_eqStepS.mono _ _ _
      | exact laws_eqStringS.mono _ _ _
      | exact laws_heldStringS.mono _ _ _
      | exact laws_markStepS.mono _ _ _
      | exact laws_markStringS.mono _ _ _
      | exact laws_szStepS.mono _ _ _
      | exact laws_toStepS.mono _ _
      | exact spec_NamesOf.mono _ _
      | exact LeO.none _
      | refine LeO.ite ?_ ?_
      | refine LeO.bind ?_ (fun _ => ?_)
set_option maxHeartbeats 8000000 in
set_option maxRecDepth 100000 in
theorem laws_FnExactNamesOf.calls (k : Nat) (A0 : Option Addr) (c0 : Nat) (l0 : List (S27)) (r : Bool) (w : World) (hr0 : Kd.C k27 w A0 l0.length l0) (hc0 : l0.length ≤ c0) (h : laws_FnExactNamesOf.f k l0 = some r) :
    Calls Tryd.prog 9 #[.slice A0 l0.length c0] w fun e w' => e = .returned (.bool r) ∧ Below w.heap.size w w' := by
  have HR0 := Aside0.mk hr0
  have HC0 := Aside0.mk hc0
  clear hr0 hc0
  have HB := Aside0.mk (Below.refl w.heap.size w)
  have H : ((laws_szStepS.f k l0 1048576).bind fun t243 => (if t243 < 0 then (some true) else ((laws_toStepS.f k l0).bind fun t244 => ((spec_NamesOf.f k t244).bind fun t247 => ((laws_toStepS.f k l0).bind fun t250 => ((impl_NamesOf.f k t250).bind fun t253 => ((laws_eqStringS.f k t253 t247).bind fun t256 => (if t256 = true then ((laws_toStepS.f k l0).bind fun t257 => ((laws_eqStepS.f k t250 t257).bind fun t260 => (if t260 = true then ((laws_markStepS.f k t250 1).bind fun bt261 => (if bt261.1 < 0 then (laws_FnExactNamesOf.j0 k l0 t247 t253 true) else ((laws_eqStringS.f k t253 t247).bind fun t263 => (laws_FnExactNamesOf.j0 k l0 t247 t253 (!t263))))) else (some false)))) else (some false))))))))) = some r := h
  clear h
  replace H := Option.bind_eq_some_iff.mp H
  obtain ⟨t243, A20, H⟩ := H
  replace H : (if t243 < 0 then (some true) else ((laws_toStepS.f k l0).bind fun t244 => ((spec_NamesOf.f k t244).bind fun t247 => ((laws_toStepS.f k l0).bind fun t250 => ((impl_NamesOf.f k t250).bind fun t253 => ((laws_eqStringS.f k t253 t247).bind fun t256 => (if t256 = true then ((laws_toStepS.f k l0).bind fun t257 => ((laws_eqStepS.f k t250 t257).bind fun t260 => (if t260 = true then ((laws_markStepS.f k t250 1).bind fun bt261 => (if bt261.1 < 0 then (laws_FnExactNamesOf.j0 k l0 t247 t253 true) else ((laws_eqStringS.f k t253 t247).bind fun t263 => (laws_FnExactNamesOf.j0 k l0 t247 t253 (!t263))))) else (some false)))) else (some false)))))))) = some r := H
  have A2 := Aside0.mk A20
  clear A20
  by_cases c3 : t243 < 0
  · rw [if_pos c3] at H
    have c3b0 : decide (t243 < 0) = true := decide_eq_true c3
    clear c3
    obtain rfl := Option.some.inj H
    go_enter Tryd.func9, Tryd.ntmps9
    go_wp2_with (first | ((with_reducible refine gate_callee (f := 15) rfl ?_); refine gl (some 13) Tryd.func15 #[.slice A0 l0.length c0, .int .i64 1048576] ?_; (with_reducible refine (laws_szStepS.calls k _ _ l0 1048576 t243 _ ?side1 ?side2 A2.out).mono ?_); (case side1 => repeat (first | exact HR0.out | (with_reducible refine Kd.C_alloc ?_ _) | (with_reducible refine Kd.C_drewN ?_ _) | (with_reducible refine Kd.C_drew ?_))); (case side2 => exact HC0.out); rintro e w4 ⟨rfl, hb⟩; refine ⟨_, rfl, ?_⟩; replace HB := bs hb; (try clear hb); (try clear hb2); (try clear hk); (try clear hi)))
    go_ret
    exact ⟨er, bw⟩
  · rw [if_neg c3] at H
    have c3b0 : decide (t243 < 0) = false := decide_eq_false c3
    clear c3
    replace H := Option.bind_eq_some_iff.mp H
    obtain ⟨t244, A50, H⟩ := H
    replace H : ((spec_NamesOf.f k t244).bind fun t247 => ((laws_toStepS.f k l0).bind fun t250 => ((impl_NamesOf.f k t250).bind fun t253 => ((laws_eqStringS.f k t253 t247).bind fun t256 => (if t256 = true then ((laws_toStepS.f k l0).bind fun t257 => ((laws_eqStepS.f k t250 t257).bind fun t260 => (if t260 = true then ((laws_markStepS.f k t250 1).bind fun bt261 => (if bt261.1 < 0 then (laws_FnExactNamesOf.j0 k l0 t247 t253 true) else ((laws_eqStringS.f k t253 t247).bind fun t263 => (laws_FnExactNamesOf.j0 k l0 t247 t253 (!t263))))) else (some false)))) else (some false)))))) = some r := H
    have A5 := Aside0.mk A50
    clear A50
    replace H := Option.bind_eq_some_iff.mp H
    obtain ⟨t247, A60, H⟩ := H
    replace H : ((laws_toStepS.f k l0).bind fun t250 => ((impl_NamesOf.f k t250).bind fun t253 => ((laws_eqStringS.f k t253 t247).bind fun t256 => (if t256 = true then ((laws_toStepS.f k l0).bind fun t257 => ((laws_eqStepS.f k t250 t257).bind fun t260 => (if t260 = true then ((laws_markStepS.f k t250 1).bind fun bt261 => (if bt261.1 < 0 then (laws_FnExactNamesOf.j0 k l0 t247 t253 true) else ((laws_eqStringS.f k t253 t247).bind fun t263 => (laws_FnExactNamesOf.j0 k l0 t247 t253 (!t263))))) else (some false)))) else (some false))))) = some r := H
    have A6 := Aside0.mk A60
    clear A60
    replace H := Option.bind_eq_some_iff.mp H
    obtain ⟨t250, A70, H⟩ := H
    replace H : ((impl_NamesOf.f k t250).bind fun t253 => ((laws_eqStringS.f k t253 t247).bind fun t256 => (if t256 = true then ((laws_toStepS.f k l0).bind fun t257 => ((laws_eqStepS.f k t250 t257).bind fun t260 => (if t260 = true then ((laws_markStepS.f k t250 1).bind fun bt261 => (if bt261.1 < 0 then (laws_FnExactNamesOf.j0 k l0 t247 t253 true) else ((laws_eqStringS.f k t253 t247).bind fun t263 => (laws_FnExactNamesOf.j0 k l0 t247 t253 (!t263))))) else (some false)))) else (some false)))) = some r := H
    have A7 := Aside0.mk A70
    clear A70
    replace H := Option.bind_eq_some_iff.mp H
    obtain ⟨t253, A80, H⟩ := H
    replace H : ((laws_eqStringS.f k t253 t247).bind fun t256 => (if t256 = true then ((laws_toStepS.f k l0).bind fun t257 => ((laws_eqStepS.f k t250 t257).bind fun t260 => (if t260 = true then ((laws_markStepS.f k t250 1).bind fun bt261 => (if bt261.1 < 0 then (laws_FnExactNamesOf.j0 k l0 t247 t253 true) else ((laws_eqStringS.f k t253 t247).bind fun t263 => (laws_FnExactNamesOf.j0 k l0 t247 t253 (!t263))))) else (some false)))) else (some false))) = some r := H
    have A8 := Aside0.mk A80
    clear A80
    replace H := Option.bind_eq_some_iff.mp H
    obtain ⟨t256, A90, H⟩ := H
    replace H : (if t256 = true then ((laws_toStepS.f k l0).bind fun t257 => ((laws_eqStepS.f k t250 t257).bind fun t260 => (if t260 = true then ((laws_markStepS.f k t250 1).bind fun bt261 => (if bt261.1 < 0 then (laws_FnExactNamesOf.j0 k l0 t247 t253 true) else ((laws_eqStringS.f k t253 t247).bind fun t263 => (laws_FnExactNamesOf.j0 k l0 t247 t253 (!t263))))) else (some false)))) else (some false)) = some r := H
    have A9 := Aside0.mk A90
    clear A90
    by_cases c10 : t256 = true
    · subst c10
      rw [if_pos rfl] at H
      replace H := Option.bind_eq_some_iff.mp H
      obtain ⟨t257, A110, H⟩ := H
      replace H : ((laws_eqStepS.f k t250 t257).bind fun t260 => (if t260 = true then ((laws_markStepS.f k t250 1).bind fun bt261 => (if bt261.1 < 0 then (laws_FnExactNamesOf.j0 k l0 t247 t253 true) else ((laws_eqStringS.f k t253 t247).bind fun t263 => (laws_FnExactNamesOf.j0 k l0 t247 t253 (!t263))))) else (some false))) = some r := H
      have A11 := Aside0.mk A110
      clear A110
      replace H := Option.bind_eq_some_iff.mp H
      obtain ⟨t260, A120, H⟩ := H
      replace H : (if t260 = true then ((laws_markStepS.f k t250 1).bind fun bt261 => (if bt261.1 < 0 then (laws_FnExactNamesOf.j0 k l0 t247 t253 true) else ((laws_eqStringS.f k t253 t247).bind fun t263 => (laws_FnExactNamesOf.j0 k l0 t247 t253 (!t263))))) else (some false)) = some r := H
      have A12 := Aside0.mk A120
      clear A120
      by_cases c13 : t260 = true
      · subst c13
        rw [if_pos rfl] at H
        replace H := Option.bind_eq_some_iff.mp H
        obtain ⟨⟨t261, t262⟩, A140, H⟩ := H
        replace H : (if t261 < 0 then (laws_FnExactNamesOf.j0 k l0 t247 t253 true) else ((laws_eqStringS.f k t253 t247).bind fun t263 => (laws_FnExactNamesOf.j0 k l0 t247 t253 (!t263)))) = some r := H
        have A14 := Aside0.mk A140
        clear A140
        have HC15 := Aside0.mk H
        clear H
        go_enter Tryd.func9, Tryd.ntmps9
        go_upto_region 14 with (first | ((with_reducible refine gate_callee (f := 15) rfl ?_); refine gl (some 13) Tryd.func15 #[.slice A0 l0.length c0, .int .i64 1048576] ?_; (with_reducible refine (laws_szStepS.calls k _ _ l0 1048576 t243 _ ?side1 ?side2 A2.out).mono ?_); (case side1 => repeat (first | exact HR0.out | (with_reducible refine Kd.C_alloc ?_ _) | (with_reducible refine Kd.C_drewN ?_ _) | (with_reducible refine Kd.C_drew ?_))); (case side2 => exact HC0.out); rintro e w16 ⟨rfl, hb⟩; refine ⟨_, rfl, ?_⟩; replace HB := bs hb; (try clear hb); (try clear hb2); (try clear hk); (try clear hi)) | ((with_reducible refine gate_callee (f := 17) rfl ?_); refine gl (some 17) Tryd.func17 #[.slice A0 l0.length c0] ?_; (with_reducible refine (laws_toStepS.calls k _ _ l0 t244 _ ?side1 ?side2 A5.out).mono ?_); (case side1 => exact sd HR0); (case side2 => exact HC0.out); rintro e w17 ⟨v245, rfl, ho0, hb⟩; refine ⟨_, rfl, ?_⟩; have HO246 := Aside0.mk (Kd.R_lower ho0 (below_size bw)); replace HB := bs hb; (try clear hb); (try clear hb2); (try clear hk); (try clear hi); (try clear ho0); obtain ⟨Ao18, co18, eo18⟩ := Kd.R_slice HO246.out; subst eo18) | ((with_reducible refine gate_callee (f := 36) rfl ?_); refine gl (some 18) Tryd.func36 #[.slice Ao18 t244.length co18] ?_; (with_reducible refine (spec_NamesOf.calls k _ _ t244 t247 _ ?side1 ?side2 A6.out).mono ?_); (case side1 => exact se HO246); (case side2 => exact (Kd.R_reads' HO246.out).2.1); rintro e w19 ⟨v248, rfl, ho0, hb⟩; refine ⟨_, rfl, ?_⟩; have HO249 := Aside0.mk (Kd.R_lower ho0 (below_size bw)); replace HO246 := Aside0.mk (Kd.R_below (ra (h := HO246.out)) hb); replace HB := bs hb; (try clear hb); (try clear hb2); (try clear hk); (try clear hi); (try clear ho0)) | ((with_reducible refine gate_callee (f := 17) rfl ?_); refine gl (some 20) Tryd.func17 #[.slice A0 l0.length c0] ?_; (with_reducible refine (laws_toStepS.calls k _ _ l0 t250 _ ?side1 ?side2 A7.out).mono ?_); (case side1 => exact sd HR0); (case side2 => exact HC0.out); rintro e w20 ⟨v251, rfl, ho0, hb⟩; refine ⟨_, rfl, ?_⟩; have HO252 := Aside0.mk (Kd.R_lower (Kd.R_new' ho0 (Kd.R_lt (ra (h := HO246.out)))) (below_size bw)); replace HO246 := Aside0.mk (Kd.R_elder' (ra (h := HO246.out)) (Kd.R_base ho0) hb); replace HO249 := Aside0.mk (Kd.R_below (ra (h := HO249.out)) hb); replace HB := bs hb; (try clear hb); (try clear hb2); (try clear hk); (try clear hi); (try clear ho0); obtain ⟨Ao21, co21, eo21⟩ := Kd.R_slice HO252.out; subst eo21) | ((with_reducible refine gate_callee (f := 33) rfl ?_); refine gl (some 22) Tryd.func33 #[.slice Ao21 t250.length co21] ?_; (with_reducible refine (impl_NamesOf.calls k _ _ t250 t253 _ ?side1 ?side2 A8.out).mono ?_); (case side1 => exact se HO252); (case side2 => exact (Kd.R_reads' HO252.out).2.1); rintro e w22 ⟨v254, rfl, ho0, hb⟩; refine ⟨_, rfl, ?_⟩; have HO255 := Aside0.mk (Kd.R_lower (Kd.R_new' ho0 (Kd.R_lt (ra (h := HO249.out)))) (below_size bw)); replace HO246 := Aside0.mk (Kd.R_below (ra (h := HO246.out)) hb); replace HO249 := Aside0.mk (Kd.R_elder' (ra (h := HO249.out)) (Kd.R_base ho0) hb); replace HO252 := Aside0.mk (Kd.R_below (ra (h := HO252.out)) hb); replace HB := bs hb; (try clear hb); (try clear hb2); (try clear hk); (try clear hi); (try clear ho0); obtain ⟨Ao23, co23, eo23⟩ := Kd.R_slice HO255.out; subst eo23; obtain ⟨Ao24, co24, eo24⟩ := Kd.R_slice HO249.out; subst eo24) | ((with_reducible refine gate_callee (f := 37) rfl ?_); refine gl (some 25) Tryd.func37 #[.slice Ao23 t253.length co23, .slice Ao24 t247.length co24] ?_; (with_reducible refine (laws_eqStringS.calls k _ _ t253 _ _ t247 true _ ?side1 ?side2 ?side3 ?side4 A9.out).mono ?_); (case side1 => exact se HO255); (case side2 => exact (Kd.R_reads' HO255.out).2.1); (case side3 => exact se HO249); (case side4 => exact (Kd.R_reads' HO249.out).2.1); rintro e w' ⟨rfl, ⟨nd, rfl⟩⟩; refine ⟨_, rfl, ?_⟩) | ((with_reducible refine gate_callee (f := 17) rfl ?_); refine gl (some 29) Tryd.func17 #[.slice A0 l0.length c0] ?_; (with_reducible refine (laws_toStepS.calls k _ _ l0 t257 _ ?side1 ?side2 A11.out).mono ?_); (case side1 => repeat (first | exact (Kd.C_below HR0.out bw) | (with_reducible refine Kd.C_alloc ?_ _) | (with_reducible refine Kd.C_drewN ?_ _) | (with_reducible refine Kd.C_drew ?_))); (case side2 => exact HC0.out); rintro e w25 ⟨v258, rfl, ho0, hb⟩; refine ⟨_, rfl, ?_⟩; have HO259 := Aside0.mk (Kd.R_lower (Kd.R_new' (Kd.R_new' ho0 (Kd.R_lt (ra (h := HO246.out)))) (Kd.R_lt (ra (h := HO252.out)))) (below_size bw)); replace HO246 := Aside0.mk (Kd.R_elder' (ra (h := HO246.out)) (Kd.R_base ho0) hb); replace HO249 := Aside0.mk (Kd.R_below (ra (h := HO249.out)) hb); replace HO252 := Aside0.mk (Kd.R_elder' (ra (h := HO252.out)) (Kd.R_base ho0) hb); replace HO255 := Aside0.mk (Kd.R_below (ra (h := HO255.out)) hb); replace HB := bs hb; (try clear hb); (try clear hb2); (try clear hk); (try clear hi); (try clear ho0); obtain ⟨Ao26, co26, eo26⟩ := Kd.R_slice HO259.out; subst eo26) | ((with_reducible refine gate_callee (f := 19) rfl ?_); refine gl (some 30) Tryd.func19 #[.slice Ao21 t250.length co21, .slice Ao26 t257.length co26] ?_; (with_reducible refine (laws_eqStepS.calls k _ _ t250 _ _ t257 true _ ?side1 ?side2 ?side3 ?side4 A12.out).mono ?_); (case side1 => exact se HO252); (case side2 => exact (Kd.R_reads' HO252.out).2.1); (case side3 => exact se HO259); (case side4 => exact (Kd.R_reads' HO259.out).2.1); rintro e w27 ⟨rfl, hb⟩; refine ⟨_, rfl, ?_⟩; replace HO246 := Aside0.mk (Kd.R_below (ra (h := HO246.out)) hb); replace HO249 := Aside0.mk (Kd.R_below (ra (h := HO249.out)) hb); replace HO252 := Aside0.mk (Kd.R_below (ra (h := HO252.out)) hb); replace HO255 := Aside0.mk (Kd.R_below (ra (h := HO255.out)) hb); replace HO259 := Aside0.mk (Kd.R_below (ra (h := HO259.out)) hb); replace HB := bs hb; (try clear hb); (try clear hb2); (try clear hk); (try clear hi)) | ((with_reducible refine gate_callee (f := 38) rfl ?_); refine gl (some 34) Tryd.func38 #[.slice Ao21 t250.length co21, .int .i64 1] ?_; (with_reducible refine (laws_markStepS.calls k (fun k_ => some k_ = (.slice Ao21 t250.length co21 : Value).ownBlock) (.slice Ao21 t250.length co21) t250 1 t261 t262 w _ ?side1 ?side2 A14.out).mono ?_); (case side1 => repeat (first | (with_reducible first | exact HB.out | apply below_alloc | apply pw_below_drewN | apply below_drew1) | exact HB.out)); (case side2 => exact Kd.R_tight rfl HO252.out); rintro e w28 ⟨rfl, hy0, hb, hkp⟩; refine ⟨_, rfl, ?_⟩; replace HO246 := Aside0.mk (Kd.R_mono (ok' := fun k_ => some k_ ≠ (.slice Ao21 t250.length co21 : Value).ownBlock ∧ some k_ ≠ (.slice Ao26 t257.length co26 : Value).ownBlock) (Kd.R_keptB (HO246.out) hkp (fun k_ hk_ hs_ => (hk_.1.2) hs_)) (fun k_ hk_ => ⟨hk_.1.1.2, hk_.1.2⟩)); replace HO249 := Aside0.mk (Kd.R_mono (ok' := fun k_ => some k_ ≠ (.slice Ao23 t253.length co23 : Value).ownBlock) (Kd.R_keptB ((Kd.R_apart' HO249.out (Kd.R_typed HO252.out) (by decide))) hkp (fun k_ hk_ hs_ => (hk_.2) hs_)) (fun k_ hk_ => hk_.1.1.2)); replace HO255 := Aside0.mk (Kd.R_mono (ok' := fun k_ => some k_ ≠ (.slice Ao24 t247.length co24 : Value).ownBlock) (Kd.R_keptB ((Kd.R_apart' HO255.out (Kd.R_typed HO252.out) (by decide))) hkp (fun k_ hk_ hs_ => (hk_.2) hs_)) (fun k_ hk_ => hk_.1.1.2)); replace HO252 := Aside0.mk (Kd.R_reok rfl hy0 (fun k_ e_ => HO252.out.1 k_ e_)); replace HO259 := Aside0.mk (Kd.R_mono (ok' := fun k_ => some k_ ≠ (.slice Ao18 t244.length co18 : Value).ownBlock ∧ some k_ ≠ (.slice Ao21 t250.length co21 : Value).ownBlock) (Kd.R_keptB (HO259.out) hkp (fun k_ hk_ hs_ => (hk_.2) hs_)) (fun k_ hk_ => ⟨hk_.1.1.2, hk_.1.2⟩)); replace HB := Aside0.mk (hb); (try clear hb); (try clear hkp); (try clear hy0)))
        (try simp only [Act.put, List.setIfInBounds_toArray, List.set_cons_zero, List.set_cons_succ])
        go_cut [42] (fun v42 wc => ∃ (kq : Nat) (x42_14 : Bool), v42 = .bool x42_14 ∧ Aside0 (laws_FnExactNamesOf.j0 kq l0 t247 t253 x42_14 = some r) ∧ Aside0 (kq ≤ k) ∧ Aside0 (Kd.R Kd.string 9 wc w.heap.size (fun k_ => some k_ ≠ ((.slice Ao23 t253.length co23) : Value).ownBlock) (.slice Ao24 t247.length co24) t247) ∧ Aside0 (Kd.R Kd.string 9 wc w.heap.size (fun k_ => some k_ ≠ ((.slice Ao24 t247.length co24) : Value).ownBlock) (.slice Ao23 t253.length co23) t253) ∧ Aside0 (Below w.heap.size w wc))
        case first =>
          have H := HC15.out
          clear HC15
          by_cases c29 : t261 < 0
          · rw [if_pos c29] at H
            have c29b0 : decide (t261 < 0) = true := decide_eq_true c29
            clear c29
            (first | rw [c29b0] | (simp only [i64_w, i32_w]; rw [c29b0]) | skip)
            have H' := Aside0.mk H
            clear H
            go_wp2
            go_meet
            case rel => exact ⟨_, (true), (by first | rfl | (simp; done) | (simp [*]; done)), H', ⟨by first | omega | exact Nat.le_refl _⟩, ⟨by refine ra (h := ?_); exact HO249.out⟩, ⟨by refine ra (h := ?_); exact HO255.out⟩, ⟨bw⟩⟩
          · rw [if_neg c29] at H
            have c29b0 : decide (t261 < 0) = false := decide_eq_false c29
            clear c29
            (first | rw [c29b0] | (simp only [i64_w, i32_w]; rw [c29b0]) | skip)
            replace H := Option.bind_eq_some_iff.mp H
            obtain ⟨t263, A300, H⟩ := H
            replace H : (laws_FnExactNamesOf.j0 k l0 t247 t253 (!t263)) = some r := H
            have A30 := Aside0.mk A300
            clear A300
            have H' := Aside0.mk H
            clear H
            go_wp2_with (first | (go_at_call 37; (with_reducible refine (laws_eqStringS.calls k _ _ t253 _ _ t247 t263 _ ?side1 ?side2 ?side3 ?side4 A30.out).mono ?_); (case side1 => exact se HO255); (case side2 => exact (Kd.R_reads' HO255.out).2.1); (case side3 => exact se HO249); (case side4 => exact (Kd.R_reads' HO249.out).2.1); rintro e w' ⟨rfl, ⟨nd, rfl⟩⟩))
            go_meet
            case rel => exact ⟨_, (!t263), (by first | rfl | (simp; done) | (simp [*]; done)), H', ⟨by first | omega | exact Nat.le_refl _⟩, ⟨by refine ra (h := ?_); exact HO249.out⟩, ⟨by refine ra (h := ?_); exact HO255.out⟩, ⟨bw⟩⟩
        case rest =>
          clear HC15
          try clear c1
          try clear c2
          try clear p2
          try clear c3
          try clear c3b0
          try clear c9
          try clear c10
          try clear c13
          try clear c15
          try clear c17
          try clear c19
          try clear c29
          try clear c29b0
          obtain ⟨kq, x42_14, rfl, HA, HJ14, HO_4, HO_6, HB⟩ := hcut
          cases kq with
          | zero => exact absurd HA.out (by simp [laws_FnExactNamesOf.j0])
          | succ kj14 =>
            have H := HA.out
            clear HA
            simp only [laws_FnExactNamesOf.j0] at H
            by_cases c31 : x42_14 = true
            · subst c31
              rw [if_pos rfl] at H
              obtain rfl := Option.some.inj H
              go_wp2
              go_ret
              exact ⟨er, bw⟩
            · replace c31 := Bool.eq_false_iff.mpr c31
              subst c31
              rw [if_neg nf] at H
              replace H := Option.bind_eq_some_iff.mp H
              obtain ⟨⟨t264, t265⟩, A320, H⟩ := H
              replace H : ((laws_heldStringS.f kj14 t265 1).bind fun t266 => (if t266 < 0 then (some false) else (if t266 = t264 then ((laws_toStepS.f kj14 l0).bind fun t267 => ((impl_NamesOf.f kj14 t267).bind fun t270 => ((laws_eqStringS.f kj14 t270 t247).bind fun t273 => (if t273 = true then ((laws_heldStringS.f kj14 t265 1).bind fun t274 => (if t274 < 0 then (some false) else (if t274 = t264 then (some true) else (some false)))) else (some false))))) else (some false)))) = some r := H
              have A32 := Aside0.mk A320
              clear A320
              replace H := Option.bind_eq_some_iff.mp H
              obtain ⟨t266, A330, H⟩ := H
              replace H : (if t266 < 0 then (some false) else (if t266 = t264 then ((laws_toStepS.f kj14 l0).bind fun t267 => ((impl_NamesOf.f kj14 t267).bind fun t270 => ((laws_eqStringS.f kj14 t270 t247).bind fun t273 => (if t273 = true then ((laws_heldStringS.f kj14 t265 1).bind fun t274 => (if t274 < 0 then (some false) else (if t274 = t264 then (some true) else (some false)))) else (some false))))) else (some false))) = some r := H
              have A33 := Aside0.mk A330
              clear A330
              by_cases c34 : t266 < 0
              · rw [if_pos c34] at H
                have c34b0 : decide (t266 < 0) = true := decide_eq_true c34
                clear c34
                obtain rfl := Option.some.inj H
                go_wp2_with (first | ((with_reducible refine gate_callee (f := 39) rfl ?_); refine gl (some 45) Tryd.func39 #[.slice Ao23 t253.length co23, .int .i64 1] ?_; (with_reducible refine (laws_markStringS.calls kj14 (fun k_ => some k_ = (.slice Ao23 t253.length co23 : Value).ownBlock) (.slice Ao23 t253.length co23) t253 1 t264 t265 w _ ?side1 ?side2 A32.out).mono ?_); (case side1 => repeat (first | (with_reducible first | exact HB.out | apply below_alloc | apply pw_below_drewN | apply below_drew1) | exact HB.out)); (case side2 => exact Kd.R_tight rfl HO_6.out); rintro e w35 ⟨rfl, hy0, hb, hkp⟩; refine ⟨_, rfl, ?_⟩; replace HO_4 := Aside0.mk (Kd.R_mono (ok' := fun k_ => some k_ ≠ (.slice Ao23 t253.length co23 : Value).ownBlock) (Kd.R_keptB (HO_4.out) hkp (fun k_ hk_ hs_ => (hk_) hs_)) (fun k_ hk_ => hk_.1)); replace HO_6 := Aside0.mk (Kd.R_reok rfl hy0 (fun k_ e_ => HO_6.out.1 k_ e_)); replace HB := Aside0.mk (hb); (try clear hb); (try clear hkp); (try clear hy0)) | ((with_reducible refine gate_callee (f := 40) rfl ?_); refine goesL_ (some 48) rfl rfl Tryd.func40 (by kernel_rfl) rfl #[.slice Ao23 t265.length co23, .int .i64 1] rfl (by (try simp only [List.map_toArray, List.map_cons, List.map_nil]); first | done | (rw [show t265.length = t253.length from (Kd.R_reads' HO_6.out).1.symm] <;> rfl) | rfl | (simp only [List.length_drop, List.length_take]; rfl)) ?_; (with_reducible refine (laws_heldStringS.calls kj14 _ _ t265 1 t266 _ ?side1 ?side2 A33.out).mono ?_); (case side1 => exact se HO_6); (case side2 => rw [show t265.length = t253.length from (Kd.R_reads' HO_6.out).1.symm]; exact (Kd.R_reads' HO_6.out).2.1); rintro e w36 ⟨rfl, hb⟩; refine ⟨_, rfl, ?_⟩; replace HO_4 := Aside0.mk (Kd.R_below (ra (h := HO_4.out)) hb); replace HO_6 := Aside0.mk (Kd.R_below (ra (h := HO_6.out)) hb); replace HB := bs hb; (try clear hb); (try clear hb2); (try clear hk); (try clear hi)))
                go_ret
                exact ⟨er, bw⟩
              · rw [if_neg c34] at H
                have c34b0 : decide (t266 < 0) = false := decide_eq_false c34
                clear c34
                by_cases c37 : t266 = t264
                · rw [if_pos c37] at H
                  have c37b0 : (t266 == t264) = true := beq_iff_eq.mpr c37
                  have c37b1 : (t266 != t264) = false := bne_eq_false_iff_eq.mpr c37
                  clear c37
                  replace H := Option.bind_eq_some_iff.mp H
                  obtain ⟨t267, A380, H⟩ := H
                  replace H : ((impl_NamesOf.f kj14 t267).bind fun t270 => ((laws_eqStringS.f kj14 t270 t247).bind fun t273 => (if t273 = true then ((laws_heldStringS.f kj14 t265 1).bind fun t274 => (if t274 < 0 then (some false) else (if t274 = t264 then (some true) else (some false)))) else (some false)))) = some r := H
                  have A38 := Aside0.mk A380
                  clear A380
                  replace H := Option.bind_eq_some_iff.mp H
                  obtain ⟨t270, A390, H⟩ := H
                  replace H : ((laws_eqStringS.f kj14 t270 t247).bind fun t273 => (if t273 = true then ((laws_heldStringS.f kj14 t265 1).bind fun t274 => (if t274 < 0 then (some false) else (if t274 = t264 then (some true) else (some false)))) else (some false))) = some r := H
                  have A39 := Aside0.mk A390
                  clear A390
                  replace H := Option.bind_eq_some_iff.mp H
                  obtain ⟨t273, A400, H⟩ := H
                  replace H : (if t273 = true then ((laws_heldStringS.f kj14 t265 1).bind fun t274 => (if t274 < 0 then (some false) else (if t274 = t264 then (some true) else (some false)))) else (some false)) = some r := H
                  have A40 := Aside0.mk A400
                  clear A400
                  by_cases c41 : t273 = true
                  · subst c41
                    rw [if_pos rfl] at H
                    replace H := Option.bind_eq_some_iff.mp H
                    obtain ⟨t274, A420, H⟩ := H
                    replace H : (if t274 < 0 then (some false) else (if t274 = t264 then (some true) else (some false))) = some r := H
                    have A42 := Aside0.mk A420
                    clear A420
                    by_cases c43 : t274 < 0
                    · rw [if_pos c43] at H
                      have c43b0 : decide (t274 < 0) = true := decide_eq_true c43
                      clear c43
                      obtain rfl := Option.some.inj H
                      go_wp2_with (first | ((with_reducible refine gate_callee (f := 39) rfl ?_); refine gl (some 45) Tryd.func39 #[.slice Ao23 t253.length co23, .int .i64 1] ?_; (with_reducible refine (laws_markStringS.calls kj14 (fun k_ => some k_ = (.slice Ao23 t253.length co23 : Value).ownBlock) (.slice Ao23 t253.length co23) t253 1 t264 t265 w _ ?side1 ?side2 A32.out).mono ?_); (case side1 => repeat (first | (with_reducible first | exact HB.out | apply below_alloc | apply pw_below_drewN | apply below_drew1) | exact HB.out)); (case side2 => exact Kd.R_tight rfl HO_6.out); rintro e w44 ⟨rfl, hy0, hb, hkp⟩; refine ⟨_, rfl, ?_⟩; replace HO_4 := Aside0.mk (Kd.R_mono (ok' := fun k_ => some k_ ≠ (.slice Ao23 t253.length co23 : Value).ownBlock) (Kd.R_keptB (HO_4.out) hkp (fun k_ hk_ hs_ => (hk_) hs_)) (fun k_ hk_ => hk_.1)); replace HO_6 := Aside0.mk (Kd.R_reok rfl hy0 (fun k_ e_ => HO_6.out.1 k_ e_)); replace HB := Aside0.mk (hb); (try clear hb); (try clear hkp); (try clear hy0)) | ((with_reducible refine gate_callee (f := 40) rfl ?_); refine goesL_ (some 48) rfl rfl Tryd.func40 (by kernel_rfl) rfl #[.slice Ao23 t265.length co23, .int .i64 1] rfl (by (try simp only [List.map_toArray, List.map_cons, List.map_nil]); first | done | (rw [show t265.length = t253.length from (Kd.R_reads' HO_6.out).1.symm] <;> rfl) | rfl | (simp only [List.length_drop, List.length_take]; rfl)) ?_; (with_reducible refine (laws_heldStringS.calls kj14 _ _ t265 1 t266 _ ?side1 ?side2 A33.out).mono ?_); (case side1 => exact se HO_6); (case side2 => rw [show t265.length = t253.length from (Kd.R_reads' HO_6.out).1.symm]; exact (Kd.R_reads' HO_6.out).2.1); rintro e w45 ⟨rfl, hb⟩; refine ⟨_, rfl, ?_⟩; replace HO_4 := Aside0.mk (Kd.R_below (ra (h := HO_4.out)) hb); replace HO_6 := Aside0.mk (Kd.R_below (ra (h := HO_6.out)) hb); replace HB := bs hb; (try clear hb); (try clear hb2); (try clear hk); (try clear hi)) | ((with_reducible refine gate_callee (f := 17) rfl ?_); refine gl (some 55) Tryd.func17 #[.slice A0 l0.length c0] ?_; (with_reducible refine (laws_toStepS.calls kj14 _ _ l0 t267 _ ?side1 ?side2 A38.out).mono ?_); (case side1 => exact sd HR0); (case side2 => exact HC0.out); rintro e w46 ⟨v268, rfl, ho0, hb⟩; refine ⟨_, rfl, ?_⟩; have HO269 := Aside0.mk (Kd.R_lower ho0 (below_size bw)); replace HO_4 := Aside0.mk (Kd.R_below (ra (h := HO_4.out)) hb); replace HO_6 := Aside0.mk (Kd.R_below (ra (h := HO_6.out)) hb); replace HB := bs hb; (try clear hb); (try clear hb2); (try clear hk); (try clear hi); (try clear ho0); obtain ⟨Ao47, co47, eo47⟩ := Kd.R_slice HO269.out; subst eo47) | ((with_reducible refine gate_callee (f := 33) rfl ?_); refine gl (some 56) Tryd.func33 #[.slice Ao47 t267.length co47] ?_; (with_reducible refine (impl_NamesOf.calls kj14 _ _ t267 t270 _ ?side1 ?side2 A39.out).mono ?_); (case side1 => exact se HO269); (case side2 => exact (Kd.R_reads' HO269.out).2.1); rintro e w48 ⟨v271, rfl, ho0, hb⟩; refine ⟨_, rfl, ?_⟩; have HO272 := Aside0.mk (Kd.R_lower (Kd.R_new' (Kd.R_new' ho0 (Kd.R_lt (ra (h := HO_4.out)))) (Kd.R_lt (ra (h := HO_6.out)))) (below_size bw)); replace HO_4 := Aside0.mk (Kd.R_elder' (ra (h := HO_4.out)) (Kd.R_base ho0) hb); replace HO_6 := Aside0.mk (Kd.R_elder' (ra (h := HO_6.out)) (Kd.R_base ho0) hb); replace HO269 := Aside0.mk (Kd.R_below (ra (h := HO269.out)) hb); replace HB := bs hb; (try clear hb); (try clear hb2); (try clear hk); (try clear hi); (try clear ho0); obtain ⟨Ao49, co49, eo49⟩ := Kd.R_slice HO272.out; subst eo49) | ((with_reducible refine gate_callee (f := 37) rfl ?_); refine gl (some 59) Tryd.func37 #[.slice Ao49 t270.length co49, .slice Ao24 t247.length co24] ?_; (with_reducible refine (laws_eqStringS.calls kj14 _ _ t270 _ _ t247 true _ ?side1 ?side2 ?side3 ?side4 A40.out).mono ?_); (case side1 => exact se HO272); (case side2 => exact (Kd.R_reads' HO272.out).2.1); (case side3 => exact se HO_4); (case side4 => exact (Kd.R_reads' HO_4.out).2.1); rintro e w' ⟨rfl, ⟨nd, rfl⟩⟩; refine ⟨_, rfl, ?_⟩) | ((with_reducible refine gate_callee (f := 40) rfl ?_); refine goesL_ (some 63) rfl rfl Tryd.func40 (by kernel_rfl) rfl #[.slice Ao23 t265.length co23, .int .i64 1] rfl (by (try simp only [List.map_toArray, List.map_cons, List.map_nil]); first | done | (rw [show t265.length = t253.length from (Kd.R_reads' HO_6.out).1.symm] <;> rfl) | rfl | (simp only [List.length_drop, List.length_take]; rfl)) ?_; (with_reducible refine (laws_heldStringS.calls kj14 _ _ t265 1 t274 _ ?side1 ?side2 A42.out).mono ?_); (case side1 => exact se HO_6); (case side2 => rw [show t265.length = t253.length from (Kd.R_reads' HO_6.out).1.symm]; exact (Kd.R_reads' HO_6.out).2.1); rintro e w50 ⟨rfl, hb⟩; refine ⟨_, rfl, ?_⟩; replace HO_4 := Aside0.mk (Kd.R_below (ra (h := HO_4.out)) hb); replace HO_6 := Aside0.mk (Kd.R_below (ra (h := HO_6.out)) hb); replace HO269 := Aside0.mk (Kd.R_below (ra (h := HO269.out)) hb); replace HO272 := Aside0.mk (Kd.R_below (ra (h := HO272.out)) hb); replace HB := bs hb; (try clear hb); (try clear hb2); (try clear hk); (try clear hi)))
                      go_ret
                      exact ⟨er, bw⟩
                    · rw [if_neg c43] at H
                      have c43b0 : decide (t274 < 0) = false := decide_eq_false c43
                      clear c43
                      by_cases c51 : t274 = t264
                      · rw [if_pos c51] at H
                        have c51b0 : (t274 == t264) = true := beq_iff_eq.mpr c51
                        have c51b1 : (t274 != t264) = false := bne_eq_false_iff_eq.mpr c51
                        clear c51
                        obtain rfl := Option.some.inj H
                        go_wp2_with (first | ((with_reducible refine gate_callee (f := 39) rfl ?_); refine gl (some 45) Tryd.func39 #[.slice Ao23 t253.length co23, .int .i64 1] ?_; (with_reducible refine (laws_markStringS.calls kj14 (fun k_ => some k_ = (.slice Ao23 t253.length co23 : Value).ownBlock) (.slice Ao23 t253.length co23) t253 1 t264 t265 w _ ?side1 ?side2 A32.out).mono ?_); (case side1 => repeat (first | (with_reducible first | exact HB.out | apply below_alloc | apply pw_below_drewN | apply below_drew1) | exact HB.out)); (case side2 => exact Kd.R_tight rfl HO_6.out); rintro e w52 ⟨rfl, hy0, hb, hkp⟩; refine ⟨_, rfl, ?_⟩; replace HO_4 := Aside0.mk (Kd.R_mono (ok' := fun k_ => some k_ ≠ (.slice Ao23 t253.length co23 : Value).ownBlock) (Kd.R_keptB (HO_4.out) hkp (fun k_ hk_ hs_ => (hk_) hs_)) (fun k_ hk_ => hk_.1)); replace HO_6 := Aside0.mk (Kd.R_reok rfl hy0 (fun k_ e_ => HO_6.out.1 k_ e_)); replace HB := Aside0.mk (hb); (try clear hb); (try clear hkp); (try clear hy0)) | ((with_reducible refine gate_callee (f := 40) rfl ?_); refine goesL_ (some 48) rfl rfl Tryd.func40 (by kernel_rfl) rfl #[.slice Ao23 t265.length co23, .int .i64 1] rfl (by (try simp only [List.map_toArray, List.map_cons, List.map_nil]); first | done | (rw [show t265.length = t253.length from (Kd.R_reads' HO_6.out).1.symm] <;> rfl) | rfl | (simp only [List.length_drop, List.length_take]; rfl)) ?_; (with_reducible refine (laws_heldStringS.calls kj14 _ _ t265 1 t266 _ ?side1 ?side2 A33.out).mono ?_); (case side1 => exact se HO_6); (case side2 => rw [show t265.length = t253.length from (Kd.R_reads' HO_6.out).1.symm]; exact (Kd.R_reads' HO_6.out).2.1); rintro e w53 ⟨rfl, hb⟩; refine ⟨_, rfl, ?_⟩; replace HO_4 := Aside0.mk (Kd.R_below (ra (h := HO_4.out)) hb); replace HO_6 := Aside0.mk (Kd.R_below (ra (h := HO_6.out)) hb); replace HB := bs hb; (try clear hb); (try clear hb2); (try clear hk); (try clear hi)) | ((with_reducible refine gate_callee (f := 17) rfl ?_); refine gl (some 55) Tryd.func17 #[.slice A0 l0.length c0] ?_; (with_reducible refine (laws_toStepS.calls kj14 _ _ l0 t267 _ ?side1 ?side2 A38.out).mono ?_); (case side1 => exact sd HR0); (case side2 => exact HC0.out); rintro e w54 ⟨v268, rfl, ho0, hb⟩; refine ⟨_, rfl, ?_⟩; have HO269 := Aside0.mk (Kd.R_lower ho0 (below_size bw)); replace HO_4 := Aside0.mk (Kd.R_below (ra (h := HO_4.out)) hb); replace HO_6 := Aside0.mk (Kd.R_below (ra (h := HO_6.out)) hb); replace HB := bs hb; (try clear hb); (try clear hb2); (try clear hk); (try clear hi); (try clear ho0); obtain ⟨Ao55, co55, eo55⟩ := Kd.R_slice HO269.out; subst eo55) | ((with_reducible refine gate_callee (f := 33) rfl ?_); refine gl (some 56) Tryd.func33 #[.slice Ao55 t267.length co55] ?_; (with_reducible refine (impl_NamesOf.calls kj14 _ _ t267 t270 _ ?side1 ?side2 A39.out).mono ?_); (case side1 => exact se HO269); (case side2 => exact (Kd.R_reads' HO269.out).2.1); rintro e w56 ⟨v271, rfl, ho0, hb⟩; refine ⟨_, rfl, ?_⟩; have HO272 := Aside0.mk (Kd.R_lower (Kd.R_new' (Kd.R_new' ho0 (Kd.R_lt (ra (h := HO_4.out)))) (Kd.R_lt (ra (h := HO_6.out)))) (below_size bw)); replace HO_4 := Aside0.mk (Kd.R_elder' (ra (h := HO_4.out)) (Kd.R_base ho0) hb); replace HO_6 := Aside0.mk (Kd.R_elder' (ra (h := HO_6.out)) (Kd.R_base ho0) hb); replace HO269 := Aside0.mk (Kd.R_below (ra (h := HO269.out)) hb); replace HB := bs hb; (try clear hb); (try clear hb2); (try clear hk); (try clear hi); (try clear ho0); obtain ⟨Ao57, co57, eo57⟩ := Kd.R_slice HO272.out; subst eo57) | ((with_reducible refine gate_callee (f := 37) rfl ?_); refine gl (some 59) Tryd.func37 #[.slice Ao57 t270.length co57, .slice Ao24 t247.length co24] ?_; (with_reducible refine (laws_eqStringS.calls kj14 _ _ t270 _ _ t247 true _ ?side1 ?side2 ?side3 ?side4 A40.out).mono ?_); (case side1 => exact se HO272); (case side2 => exact (Kd.R_reads' HO272.out).2.1); (case side3 => exact se HO_4); (case side4 => exact (Kd.R_reads' HO_4.out).2.1); rintro e w' ⟨rfl, ⟨nd, rfl⟩⟩; refine ⟨_, rfl, ?_⟩) | ((with_reducible refine gate_callee (f := 40) rfl ?_); refine goesL_ (some 63) rfl rfl Tryd.func40 (by kernel_rfl) rfl #[.slice Ao23 t265.length co23, .int .i64 1] rfl (by (try simp only [List.map_toArray, List.map_cons, List.map_nil]); first | done | (rw [show t265.length = t253.length from (Kd.R_reads' HO_6.out).1.symm] <;> rfl) | rfl | (simp only [List.length_drop, List.length_take]; rfl)) ?_; (with_reducible refine (laws_heldStringS.calls kj14 _ _ t265 1 t274 _ ?side1 ?side2 A42.out).mono ?_); (case side1 => exact se HO_6); (case side2 => rw [show t265.length = t253.length from (Kd.R_reads' HO_6.out).1.symm]; exact (Kd.R_reads' HO_6.out).2.1); rintro e w58 ⟨rfl, hb⟩; refine ⟨_, rfl, ?_⟩; replace HO_4 := Aside0.mk (Kd.R_below (ra (h := HO_4.out)) hb); replace HO_6 := Aside0.mk (Kd.R_below (ra (h := HO_6.out)) hb); replace HO269 := Aside0.mk (Kd.R_below (ra (h := HO269.out)) hb); replace HO272 := Aside0.mk (Kd.R_below (ra (h := HO272.out)) hb); replace HB := bs hb; (try clear hb); (try clear hb2); (try clear hk); (try clear hi)))
                        go_ret
                        exact ⟨er, bw⟩
                      · rw [if_neg c51] at H
                        have c51b0 : (t274 == t264) = false := beq_eq_false_iff_ne.mpr c51
                        have c51b1 : (t274 != t264) = true := bne_iff_ne.mpr c51
                        obtain rfl := Option.some.inj H
                        go_wp2_with (first | ((with_reducible refine gate_callee (f := 39) rfl ?_); refine gl (some 45) Tryd.func39 #[.slice Ao23 t253.length co23, .int .i64 1] ?_; (with_reducible refine (laws_markStringS.calls kj14 (fun k_ => some k_ = (.slice Ao23 t253.length co23 : Value).ownBlock) (.slice Ao23 t253.length co23) t253 1 t264 t265 w _ ?side1 ?side2 A32.out).mono ?_); (case side1 => repeat (first | (with_reducible first | exact HB.out | apply below_alloc | apply pw_below_drewN | apply below_drew1) | exact HB.out)); (case side2 => exact Kd.R_tight rfl HO_6.out); rintro e w59 ⟨rfl, hy0, hb, hkp⟩; refine ⟨_, rfl, ?_⟩; replace HO_4 := Aside0.mk (Kd.R_mono (ok' := fun k_ => some k_ ≠ (.slice Ao23 t253.length co23 : Value).ownBlock) (Kd.R_keptB (HO_4.out) hkp (fun k_ hk_ hs_ => (hk_) hs_)) (fun k_ hk_ => hk_.1)); replace HO_6 := Aside0.mk (Kd.R_reok rfl hy0 (fun k_ e_ => HO_6.out.1 k_ e_)); replace HB := Aside0.mk (hb); (try clear hb); (try clear hkp); (try clear hy0)) | ((with_reducible refine gate_callee (f := 40) rfl ?_); refine goesL_ (some 48) rfl rfl Tryd.func40 (by kernel_rfl) rfl #[.slice Ao23 t265.length co23, .int .i64 1] rfl (by (try simp only [List.map_toArray, List.map_cons, List.map_nil]); first | done | (rw [show t265.length = t253.length from (Kd.R_reads' HO_6.out).1.symm] <;> rfl) | rfl | (simp only [List.length_drop, List.length_take]; rfl)) ?_; (with_reducible refine (laws_heldStringS.calls kj14 _ _ t265 1 t266 _ ?side1 ?side2 A33.out).mono ?_); (case side1 => exact se HO_6); (case side2 => rw [show t265.length = t253.length from (Kd.R_reads' HO_6.out).1.symm]; exact (Kd.R_reads' HO_6.out).2.1); rintro e w60 ⟨rfl, hb⟩; refine ⟨_, rfl, ?_⟩; replace HO_4 := Aside0.mk (Kd.R_below (ra (h := HO_4.out)) hb); replace HO_6 := Aside0.mk (Kd.R_below (ra (h := HO_6.out)) hb); replace HB := bs hb; (try clear hb); (try clear hb2); (try clear hk); (try clear hi)) | ((with_reducible refine gate_callee (f := 17) rfl ?_); refine gl (some 55) Tryd.func17 #[.slice A0 l0.length c0] ?_; (with_reducible refine (laws_toStepS.calls kj14 _ _ l0 t267 _ ?side1 ?side2 A38.out).mono ?_); (case side1 => exact sd HR0); (case side2 => exact HC0.out); rintro e w61 ⟨v268, rfl, ho0, hb⟩; refine ⟨_, rfl, ?_⟩; have HO269 := Aside0.mk (Kd.R_lower ho0 (below_size bw)); replace HO_4 := Aside0.mk (Kd.R_below (ra (h := HO_4.out)) hb); replace HO_6 := Aside0.mk (Kd.R_below (ra (h := HO_6.out)) hb); replace HB := bs hb; (try clear hb); (try clear hb2); (try clear hk); (try clear hi); (try clear ho0); obtain ⟨Ao62, co62, eo62⟩ := Kd.R_slice HO269.out; subst eo62) | ((with_reducible refine gate_callee (f := 33) rfl ?_); refine gl (some 56) Tryd.func33 #[.slice Ao62 t267.length co62] ?_; (with_reducible refine (impl_NamesOf.calls kj14 _ _ t267 t270 _ ?side1 ?side2 A39.out).mono ?_); (case side1 => exact se HO269); (case side2 => exact (Kd.R_reads' HO269.out).2.1); rintro e w63 ⟨v271, rfl, ho0, hb⟩; refine ⟨_, rfl, ?_⟩; have HO272 := Aside0.mk (Kd.R_lower (Kd.R_new' (Kd.R_new' ho0 (Kd.R_lt (ra (h := HO_4.out)))) (Kd.R_lt (ra (h := HO_6.out)))) (below_size bw)); replace HO_4 := Aside0.mk (Kd.R_elder' (ra (h := HO_4.out)) (Kd.R_base ho0) hb); replace HO_6 := Aside0.mk (Kd.R_elder' (ra (h := HO_6.out)) (Kd.R_base ho0) hb); replace HO269 := Aside0.mk (Kd.R_below (ra (h := HO269.out)) hb); replace HB := bs hb; (try clear hb); (try clear hb2); (try clear hk); (try clear hi); (try clear ho0); obtain ⟨Ao64, co64, eo64⟩ := Kd.R_slice HO272.out; subst eo64) | ((with_reducible refine gate_callee (f := 37) rfl ?_); refine gl (some 59) Tryd.func37 #[.slice Ao64 t270.length co64, .slice Ao24 t247.length co24] ?_; (with_reducible refine (laws_eqStringS.calls kj14 _ _ t270 _ _ t247 true _ ?side1 ?side2 ?side3 ?side4 A40.out).mono ?_); (case side1 => exact se HO272); (case side2 => exact (Kd.R_reads' HO272.out).2.1); (case side3 => exact se HO_4); (case side4 => exact (Kd.R_reads' HO_4.out).2.1); rintro e w' ⟨rfl, ⟨nd, rfl⟩⟩; refine ⟨_, rfl, ?_⟩) | ((with_reducible refine gate_callee (f := 40) rfl ?_); refine goesL_ (some 63) rfl rfl Tryd.func40 (by kernel_rfl) rfl #[.slice Ao23 t265.length co23, .int .i64 1] rfl (by (try simp only [List.map_toArray, List.map_cons, List.map_nil]); first | done | (rw [show t265.length = t253.length from (Kd.R_reads' HO_6.out).1.symm] <;> rfl) | rfl | (simp only [List.length_drop, List.length_take]; rfl)) ?_; (with_reducible refine (laws_heldStringS.calls kj14 _ _ t265 1 t274 _ ?side1 ?side2 A42.out).mono ?_); (case side1 => exact se HO_6); (case side2 => rw [show t265.length = t253.length from (Kd.R_reads' HO_6.out).1.symm]; exact (Kd.R_reads' HO_6.out).2.1); rintro e w65 ⟨rfl, hb⟩; refine ⟨_, rfl, ?_⟩; replace HO_4 := Aside0.mk (Kd.R_below (ra (h := HO_4.out)) hb); replace HO_6 := Aside0.mk (Kd.R_below (ra (h := HO_6.out)) hb); replace HO269 := Aside0.mk (Kd.R_below (ra (h := HO269.out)) hb); replace HO272 := Aside0.mk (Kd.R_below (ra (h := HO272.out)) hb); replace HB := bs hb; (try clear hb); (try clear hb2); (try clear hk); (try clear hi)))
                        go_ret
                        exact ⟨er, bw⟩
                  · replace c41 := Bool.eq_false_iff.mpr c41
                    subst c41
                    rw [if_neg nf] at H
                    obtain rfl := Option.some.inj H
                    go_wp2_with (first | ((with_reducible refine gate_callee (f := 39) rfl ?_); refine gl (some 45) Tryd.func39 #[.slice Ao23 t253.length co23, .int .i64 1] ?_; (with_reducible refine (laws_markStringS.calls kj14 (fun k_ => some k_ = (.slice Ao23 t253.length co23 : Value).ownBlock) (.slice Ao23 t253.length co23) t253 1 t264 t265 w _ ?side1 ?side2 A32.out).mono ?_); (case side1 => repeat (first | (with_reducible first | exact HB.out | apply below_alloc | apply pw_below_drewN | apply below_drew1) | exact HB.out)); (case side2 => exact Kd.R_tight rfl HO_6.out); rintro e w66 ⟨rfl, hy0, hb, hkp⟩; refine ⟨_, rfl, ?_⟩; replace HO_4 := Aside0.mk (Kd.R_mono (ok' := fun k_ => some k_ ≠ (.slice Ao23 t253.length co23 : Value).ownBlock) (Kd.R_keptB (HO_4.out) hkp (fun k_ hk_ hs_ => (hk_) hs_)) (fun k_ hk_ => hk_.1)); replace HO_6 := Aside0.mk (Kd.R_reok rfl hy0 (fun k_ e_ => HO_6.out.1 k_ e_)); replace HB := Aside0.mk (hb); (try clear hb); (try clear hkp); (try clear hy0)) | ((with_reducible refine gate_callee (f := 40) rfl ?_); refine goesL_ (some 48) rfl rfl Tryd.func40 (by kernel_rfl) rfl #[.slice Ao23 t265.length co23, .int .i64 1] rfl (by (try simp only [List.map_toArray, List.map_cons, List.map_nil]); first | done | (rw [show t265.length = t253.length from (Kd.R_reads' HO_6.out).1.symm] <;> rfl) | rfl | (simp only [List.length_drop, List.length_take]; rfl)) ?_; (with_reducible refine (laws_heldStringS.calls kj14 _ _ t265 1 t266 _ ?side1 ?side2 A33.out).mono ?_); (case side1 => exact se HO_6); (case side2 => rw [show t265.length = t253.length from (Kd.R_reads' HO_6.out).1.symm]; exact (Kd.R_reads' HO_6.out).2.1); rintro e w67 ⟨rfl, hb⟩; refine ⟨_, rfl, ?_⟩; replace HO_4 := Aside0.mk (Kd.R_below (ra (h := HO_4.out)) hb); replace HO_6 := Aside0.mk (Kd.R_below (ra (h := HO_6.out)) hb); replace HB := bs hb; (try clear hb); (try clear hb2); (try clear hk); (try clear hi)) | ((with_reducible refine gate_callee (f := 17) rfl ?_); refine gl (some 55) Tryd.func17 #[.slice A0 l0.length c0] ?_; (with_reducible refine (laws_toStepS.calls kj14 _ _ l0 t267 _ ?side1 ?side2 A38.out).mono ?_); (case side1 => exact sd HR0); (case side2 => exact HC0.out); rintro e w68 ⟨v268, rfl, ho0, hb⟩; refine ⟨_, rfl, ?_⟩; have HO269 := Aside0.mk (Kd.R_lower ho0 (below_size bw)); replace HO_4 := Aside0.mk (Kd.R_below (ra (h := HO_4.out)) hb); replace HO_6 := Aside0.mk (Kd.R_below (ra (h := HO_6.out)) hb); replace HB := bs hb; (try clear hb); (try clear hb2); (try clear hk); (try clear hi); (try clear ho0); obtain ⟨Ao69, co69, eo69⟩ := Kd.R_slice HO269.out; subst eo69) | ((with_reducible refine gate_callee (f := 33) rfl ?_); refine gl (some 56) Tryd.func33 #[.slice Ao69 t267.length co69] ?_; (with_reducible refine (impl_NamesOf.calls kj14 _ _ t267 t270 _ ?side1 ?side2 A39.out).mono ?_); (case side1 => exact se HO269); (case side2 => exact (Kd.R_reads' HO269.out).2.1); rintro e w70 ⟨v271, rfl, ho0, hb⟩; refine ⟨_, rfl, ?_⟩; have HO272 := Aside0.mk (Kd.R_lower (Kd.R_new' (Kd.R_new' ho0 (Kd.R_lt (ra (h := HO_4.out)))) (Kd.R_lt (ra (h := HO_6.out)))) (below_size bw)); replace HO_4 := Aside0.mk (Kd.R_elder' (ra (h := HO_4.out)) (Kd.R_base ho0) hb); replace HO_6 := Aside0.mk (Kd.R_elder' (ra (h := HO_6.out)) (Kd.R_base ho0) hb); replace HO269 := Aside0.mk (Kd.R_below (ra (h := HO269.out)) hb); replace HB := bs hb; (try clear hb); (try clear hb2); (try clear hk); (try clear hi); (try clear ho0); obtain ⟨Ao71, co71, eo71⟩ := Kd.R_slice HO272.out; subst eo71) | ((with_reducible refine gate_callee (f := 37) rfl ?_); refine gl (some 59) Tryd.func37 #[.slice Ao71 t270.length co71, .slice Ao24 t247.length co24] ?_; (with_reducible refine (laws_eqStringS.calls kj14 _ _ t270 _ _ t247 false _ ?side1 ?side2 ?side3 ?side4 A40.out).mono ?_); (case side1 => exact se HO272); (case side2 => exact (Kd.R_reads' HO272.out).2.1); (case side3 => exact se HO_4); (case side4 => exact (Kd.R_reads' HO_4.out).2.1); rintro e w' ⟨rfl, ⟨nd, rfl⟩⟩; refine ⟨_, rfl, ?_⟩))
                    go_ret
                    exact ⟨er, bw⟩
                · rw [if_neg c37] at H
                  have c37b0 : (t266 == t264) = false := beq_eq_false_iff_ne.mpr c37
                  have c37b1 : (t266 != t264) = true := bne_iff_ne.mpr c37
                  obtain rfl := Option.some.inj H
                  go_wp2_with (first | ((with_reducible refine gate_callee (f := 39) rfl ?_); refine gl (some 45) Tryd.func39 #[.slice Ao23 t253.length co23, .int .i64 1] ?_; (with_reducible refine (laws_markStringS.calls kj14 (fun k_ => some k_ = (.slice Ao23 t253.length co23 : Value).ownBlock) (.slice Ao23 t253.length co23) t253 1 t264 t265 w _ ?side1 ?side2 A32.out).mono ?_); (case side1 => repeat (first | (with_reducible first | exact HB.out | apply below_alloc | apply pw_below_drewN | apply below_drew1) | exact HB.out)); (case side2 => exact Kd.R_tight rfl HO_6.out); rintro e w72 ⟨rfl, hy0, hb, hkp⟩; refine ⟨_, rfl, ?_⟩; replace HO_4 := Aside0.mk (Kd.R_mono (ok' := fun k_ => some k_ ≠ (.slice Ao23 t253.length co23 : Value).ownBlock) (Kd.R_keptB (HO_4.out) hkp (fun k_ hk_ hs_ => (hk_) hs_)) (fun k_ hk_ => hk_.1)); replace HO_6 := Aside0.mk (Kd.R_reok rfl hy0 (fun k_ e_ => HO_6.out.1 k_ e_)); replace HB := Aside0.mk (hb); (try clear hb); (try clear hkp); (try clear hy0)) | ((with_reducible refine gate_callee (f := 40) rfl ?_); refine goesL_ (some 48) rfl rfl Tryd.func40 (by kernel_rfl) rfl #[.slice Ao23 t265.length co23, .int .i64 1] rfl (by (try simp only [List.map_toArray, List.map_cons, List.map_nil]); first | done | (rw [show t265.length = t253.length from (Kd.R_reads' HO_6.out).1.symm] <;> rfl) | rfl | (simp only [List.length_drop, List.length_take]; rfl)) ?_; (with_reducible refine (laws_heldStringS.calls kj14 _ _ t265 1 t266 _ ?side1 ?side2 A33.out).mono ?_); (case side1 => exact se HO_6); (case side2 => rw [show t265.length = t253.length from (Kd.R_reads' HO_6.out).1.symm]; exact (Kd.R_reads' HO_6.out).2.1); rintro e w73 ⟨rfl, hb⟩; refine ⟨_, rfl, ?_⟩; replace HO_4 := Aside0.mk (Kd.R_below (ra (h := HO_4.out)) hb); replace HO_6 := Aside0.mk (Kd.R_below (ra (h := HO_6.out)) hb); replace HB := bs hb; (try clear hb); (try clear hb2); (try clear hk); (try clear hi)))
                  go_ret
                  exact ⟨er, bw⟩
      · replace c13 := Bool.eq_false_iff.mpr c13
        subst c13
        rw [if_neg nf] at H
        obtain rfl := Option.some.inj H
        go_enter Tryd.func9, Tryd.ntmps9
        go_wp2_with (first | ((with_reducible refine gate_callee (f := 15) rfl ?_); refine gl (some 13) Tryd.func15 #[.slice A0 l0.length c0, .int .i64 1048576] ?_; (with_reducible refine (laws_szStepS.calls k _ _ l0 1048576 t243 _ ?side1 ?side2 A2.out).mono ?_); (case side1 => repeat (first | exact HR0.out | (with_reducible refine Kd.C_alloc ?_ _) | (with_reducible refine Kd.C_drewN ?_ _) | (with_reducible refine Kd.C_drew ?_))); (case side2 => exact HC0.out); rintro e w74 ⟨rfl, hb⟩; refine ⟨_, rfl, ?_⟩; replace HB := bs hb; (try clear hb); (try clear hb2); (try clear hk); (try clear hi)) | ((with_reducible refine gate_callee (f := 17) rfl ?_); refine gl (some 17) Tryd.func17 #[.slice A0 l0.length c0] ?_; (with_reducible refine (laws_toStepS.calls k _ _ l0 t244 _ ?side1 ?side2 A5.out).mono ?_); (case side1 => exact sd HR0); (case side2 => exact HC0.out); rintro e w75 ⟨v245, rfl, ho0, hb⟩; refine ⟨_, rfl, ?_⟩; have HO246 := Aside0.mk (Kd.R_lower ho0 (below_size bw)); replace HB := bs hb; (try clear hb); (try clear hb2); (try clear hk); (try clear hi); (try clear ho0); obtain ⟨Ao76, co76, eo76⟩ := Kd.R_slice HO246.out; subst eo76) | ((with_reducible refine gate_callee (f := 36) rfl ?_); refine gl (some 18) Tryd.func36 #[.slice Ao76 t244.length co76] ?_; (with_reducible refine (spec_NamesOf.calls k _ _ t244 t247 _ ?side1 ?side2 A6.out).mono ?_); (case side1 => exact se HO246); (case side2 => exact (Kd.R_reads' HO246.out).2.1); rintro e w77 ⟨v248, rfl, ho0, hb⟩; refine ⟨_, rfl, ?_⟩; have HO249 := Aside0.mk (Kd.R_lower ho0 (below_size bw)); replace HO246 := Aside0.mk (Kd.R_below (ra (h := HO246.out)) hb); replace HB := bs hb; (try clear hb); (try clear hb2); (try clear hk); (try clear hi); (try clear ho0)) | ((with_reducible refine gate_callee (f := 17) rfl ?_); refine gl (some 20) Tryd.func17 #[.slice A0 l0.length c0] ?_; (with_reducible refine (laws_toStepS.calls k _ _ l0 t250 _ ?side1 ?side2 A7.out).mono ?_); (case side1 => exact sd HR0); (case side2 => exact HC0.out); rintro e w78 ⟨v251, rfl, ho0, hb⟩; refine ⟨_, rfl, ?_⟩; have HO252 := Aside0.mk (Kd.R_lower (Kd.R_new' ho0 (Kd.R_lt (ra (h := HO246.out)))) (below_size bw)); replace HO246 := Aside0.mk (Kd.R_elder' (ra (h := HO246.out)) (Kd.R_base ho0) hb); replace HO249 := Aside0.mk (Kd.R_below (ra (h := HO249.out)) hb); replace HB := bs hb; (try clear hb); (try clear hb2); (try clear hk); (try clear hi); (try clear ho0); obtain ⟨Ao79, co79, eo79⟩ := Kd.R_slice HO252.out; subst eo79) | ((with_reducible refine gate_callee (f := 33) rfl ?_); refine gl (some 22) Tryd.func33 #[.slice Ao79 t250.length co79] ?_; (with_reducible refine (impl_NamesOf.calls k _ _ t250 t253 _ ?side1 ?side2 A8.out).mono ?_); (case side1 => exact se HO252); (case side2 => exact (Kd.R_reads' HO252.out).2.1); rintro e w80 ⟨v254, rfl, ho0, hb⟩; refine ⟨_, rfl, ?_⟩; have HO255 := Aside0.mk (Kd.R_lower (Kd.R_new' ho0 (Kd.R_lt (ra (h := HO249.out)))) (below_size bw)); replace HO246 := Aside0.mk (Kd.R_below (ra (h := HO246.out)) hb); replace HO249 := Aside0.mk (Kd.R_elder' (ra (h := HO249.out)) (Kd.R_base ho0) hb); replace HO252 := Aside0.mk (Kd.R_below (ra (h := HO252.out)) hb); replace HB := bs hb; (try clear hb); (try clear hb2); (try clear hk); (try clear hi); (try clear ho0); obtain ⟨Ao81, co81, eo81⟩ := Kd.R_slice HO255.out; subst eo81; obtain ⟨Ao82, co82, eo82⟩ := Kd.R_slice HO249.out; subst eo82) | ((with_reducible refine gate_callee (f := 37) rfl ?_); refine gl (some 25) Tryd.func37 #[.slice Ao81 t253.length co81, .slice Ao82 t247.length co82] ?_; (with_reducible refine (laws_eqStringS.calls k _ _ t253 _ _ t247 true _ ?side1 ?side2 ?side3 ?side4 A9.out).mono ?_); (case side1 => exact se HO255); (case side2 => exact (Kd.R_reads' HO255.out).2.1); (case side3 => exact se HO249); (case side4 => exact (Kd.R_reads' HO249.out).2.1); rintro e w' ⟨rfl, ⟨nd, rfl⟩⟩; refine ⟨_, rfl, ?_⟩) | ((with_reducible refine gate_callee (f := 17) rfl ?_); refine gl (some 29) Tryd.func17 #[.slice A0 l0.length c0] ?_; (with_reducible refine (laws_toStepS.calls k _ _ l0 t257 _ ?side1 ?side2 A11.out).mono ?_); (case side1 => repeat (first | exact (Kd.C_below HR0.out bw) | (with_reducible refine Kd.C_alloc ?_ _) | (with_reducible refine Kd.C_drewN ?_ _) | (with_reducible refine Kd.C_drew ?_))); (case side2 => exact HC0.out); rintro e w83 ⟨v258, rfl, ho0, hb⟩; refine ⟨_, rfl, ?_⟩; have HO259 := Aside0.mk (Kd.R_lower (Kd.R_new' (Kd.R_new' ho0 (Kd.R_lt (ra (h := HO246.out)))) (Kd.R_lt (ra (h := HO252.out)))) (below_size bw)); replace HO246 := Aside0.mk (Kd.R_elder' (ra (h := HO246.out)) (Kd.R_base ho0) hb); replace HO249 := Aside0.mk (Kd.R_below (ra (h := HO249.out)) hb); replace HO252 := Aside0.mk (Kd.R_elder' (ra (h := HO252.out)) (Kd.R_base ho0) hb); replace HO255 := Aside0.mk (Kd.R_below (ra (h := HO255.out)) hb); replace HB := bs hb; (try clear hb); (try clear hb2); (try clear hk); (try clear hi); (try clear ho0); obtain ⟨Ao84, co84, eo84⟩ := Kd.R_slice HO259.out; subst eo84) | ((with_reducible refine gate_callee (f := 19) rfl ?_); refine gl (some 30) Tryd.func19 #[.slice Ao79 t250.length co79, .slice Ao84 t257.length co84] ?_; (with_reducible refine (laws_eqStepS.calls k _ _ t250 _ _ t257 false _ ?side1 ?side2 ?side3 ?side4 A12.out).mono ?_); (case side1 => exact se HO252); (case side2 => exact (Kd.R_reads' HO252.out).2.1); (case side3 => exact se HO259); (case side4 => exact (Kd.R_reads' HO259.out).2.1); rintro e w85 ⟨rfl, hb⟩; refine ⟨_, rfl, ?_⟩; replace HO246 := Aside0.mk (Kd.R_below (ra (h := HO246.out)) hb); replace HO249 := Aside0.mk (Kd.R_below (ra (h := HO249.out)) hb); replace HO252 := Aside0.mk (Kd.R_below (ra (h := HO252.out)) hb); replace HO255 := Aside0.mk (Kd.R_below (ra (h := HO255.out)) hb); replace HO259 := Aside0.mk (Kd.R_below (ra (h := HO259.out)) hb); replace HB := bs hb; (try clear hb); (try clear hb2); (try clear hk); (try clear hi)))
        go_ret
        exact ⟨er, bw⟩
    · replace c10 := Bool.eq_false_iff.mpr c10
      subst c10
      rw [if_neg nf] at H
      obtain rfl := Option.some.inj H
      go_enter Tryd.func9, Tryd.ntmps9
      go_wp2_with (first | ((with_reducible refine gate_callee (f := 15) rfl ?_); refine gl (some 13) Tryd.func15 #[.slice A0 l0.length c0, .int .i64 1048576] ?_; (with_reducible refine (laws_szStepS.calls k _ _ l0 1048576 t243 _ ?side1 ?side2 A2.out).mono ?_); (case side1 => repeat (first | exact HR0.out | (with_reducible refine Kd.C_alloc ?_ _) | (with_reducible refine Kd.C_drewN ?_ _) | (with_reducible refine Kd.C_drew ?_))); (case side2 => exact HC0.out); rintro e w86 ⟨rfl, hb⟩; refine ⟨_, rfl, ?_⟩; replace HB := bs hb; (try clear hb); (try clear hb2); (try clear hk); (try clear hi)) | ((with_reducible refine gate_callee (f := 17) rfl ?_); refine gl (some 17) Tryd.func17 #[.slice A0 l0.length c0] ?_; (with_reducible refine (laws_toStepS.calls k _ _ l0 t244 _ ?side1 ?side2 A5.out).mono ?_); (case side1 => exact sd HR0); (case side2 => exact HC0.out); rintro e w87 ⟨v245, rfl, ho0, hb⟩; refine ⟨_, rfl, ?_⟩; have HO246 := Aside0.mk (Kd.R_lower ho0 (below_size bw)); replace HB := bs hb; (try clear hb); (try clear hb2); (try clear hk); (try clear hi); (try clear ho0); obtain ⟨Ao88, co88, eo88⟩ := Kd.R_slice HO246.out; subst eo88) | ((with_reducible refine gate_callee (f := 36) rfl ?_); refine gl (some 18) Tryd.func36 #[.slice Ao88 t244.length co88] ?_; (with_reducible refine (spec_NamesOf.calls k _ _ t244 t247 _ ?side1 ?side2 A6.out).mono ?_); (case side1 => exact se HO246); (case side2 => exact (Kd.R_reads' HO246.out).2.1); rintro e w89 ⟨v248, rfl, ho0, hb⟩; refine ⟨_, rfl, ?_⟩; have HO249 := Aside0.mk (Kd.R_lower ho0 (below_size bw)); replace HO246 := Aside0.mk (Kd.R_below (ra (h := HO246.out)) hb); replace HB := bs hb; (try clear hb); (try clear hb2); (try clear hk); (try clear hi); (try clear ho0)) | ((with_reducible refine gate_callee (f := 17) rfl ?_); refine gl (some 20) Tryd.func17 #[.slice A0 l0.length c0] ?_; (with_reducible refine (laws_toStepS.calls k _ _ l0 t250 _ ?side1 ?side2 A7.out).mono ?_); (case side1 => exact sd HR0); (case side2 => exact HC0.out); rintro e w90 ⟨v251, rfl, ho0, hb⟩; refine ⟨_, rfl, ?_⟩; have HO252 := Aside0.mk (Kd.R_lower (Kd.R_new' ho0 (Kd.R_lt (ra (h := HO246.out)))) (below_size bw)); replace HO246 := Aside0.mk (Kd.R_elder' (ra (h := HO246.out)) (Kd.R_base ho0) hb); replace HO249 := Aside0.mk (Kd.R_below (ra (h := HO249.out)) hb); replace HB := bs hb; (try clear hb); (try clear hb2); (try clear hk); (try clear hi); (try clear ho0); obtain ⟨Ao91, co91, eo91⟩ := Kd.R_slice HO252.out; subst eo91) | ((with_reducible refine gate_callee (f := 33) rfl ?_); refine gl (some 22) Tryd.func33 #[.slice Ao91 t250.length co91] ?_; (with_reducible refine (impl_NamesOf.calls k _ _ t250 t253 _ ?side1 ?side2 A8.out).mono ?_); (case side1 => exact se HO252); (case side2 => exact (Kd.R_reads' HO252.out).2.1); rintro e w92 ⟨v254, rfl, ho0, hb⟩; refine ⟨_, rfl, ?_⟩; have HO255 := Aside0.mk (Kd.R_lower (Kd.R_new' ho0 (Kd.R_lt (ra (h := HO249.out)))) (below_size bw)); replace HO246 := Aside0.mk (Kd.R_below (ra (h := HO246.out)) hb); replace HO249 := Aside0.mk (Kd.R_elder' (ra (h := HO249.out)) (Kd.R_base ho0) hb); replace HO252 := Aside0.mk (Kd.R_below (ra (h := HO252.out)) hb); replace HB := bs hb; (try clear hb); (try clear hb2); (try clear hk); (try clear hi); (try clear ho0); obtain ⟨Ao93, co93, eo93⟩ := Kd.R_slice HO255.out; subst eo93; obtain ⟨Ao94, co94, eo94⟩ := Kd.R_slice HO249.out; subst eo94) | ((with_reducible refine gate_callee (f := 37) rfl ?_); refine gl (some 25) Tryd.func37 #[.slice Ao93 t253.length co93, .slice Ao94 t247.length co94] ?_; (with_reducible refine (laws_eqStringS.calls k _ _ t253 _ _ t247 false _ ?side1 ?side2 ?side3 ?side4 A9.out).mono ?_); (case side1 => exact se HO255); (case side2 => exact (Kd.R_reads' HO255.out).2.1); (case side3 => exact se HO249); (case side4 => exact (Kd.R_reads' HO249.out).2.1); rintro e w' ⟨rfl, ⟨nd, rfl⟩⟩; refine ⟨_, rfl, ?_⟩))
      go_ret
      exact ⟨er, bw⟩

end Go.Proofs.YteadienaeapaeaaDoor.PY
