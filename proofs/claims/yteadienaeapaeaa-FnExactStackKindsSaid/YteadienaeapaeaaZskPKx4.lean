-- Made by a program of this session (myprint.py) out of the translation.
import Derived.Test.YteadienaeapaeaaZskPKx0
import Derived.Test.YteadienaeapaeaaZskPKx1
import Derived.Test.YteadienaeapaeaaZskPKx3
import Derived.Test.YteadienaeapaeaaZskShort
namespace Go.Proofs.Yteadienaeapaeaa.PK
open Go.Proofs.Yteadienaeapaeaa.Short
open Go.Proofs.Yteadienaeapaeaa.Dyn
open Go.RowKit Go.Proofs.YteadienaeapaeaaW.PrintWords Go.Proofs.YteadienaeapaeaaW.PrintLast Go.Proofs.YteadienaeapaeaaW.PrintMore
attribute [local go_sem] max2_int min2_int max_two min_two max_three min_three max_four min_four   -- for this text's walks alone
set_option linter.unusedVariables false
set_option linter.unusedSimpArgs false

/-! ### spec_l26Stack: function 74 -/
def spec_l26Stack.f (k : Nat) (a0 : Int) (a1 : Int) (l2 : List Int) : Option (Bool) := (spec_l26Levels.f k (wrap64 (a0 * a1)) l2).bind fun bt159 => (if bt159.2 = true then ((spec_l26Cross.f k a0 a1 bt159.1).bind fun bt163 => (some (!bt163.2))) else (some false))
theorem spec_l26Stack.mono : ∀ a0 a1 a2 k, LeO (spec_l26Stack.f k a0 a1 a2) (spec_l26Stack.f (k + 1) a0 a1 a2) := by
  intro a0 a1 a2 k
  unfold spec_l26Stack.f
  repeat' first
      | (with_reducible exact spec_l26Cross.mono _ _ _ _)
      | (with_reducible exact spec_l26Levels.mono _ _ _)
      | (with_reducible exact LeO.refl _)
      | (with_reducible exact LeO.none _)
      | (with_reducible refine LeO.ite ?_ ?_)
      | (with_reducible refine LeO.bind ?_ (fun _ => ?_))
      | exact spec_l26Cross.mono _ _ _ _
      | exact spec_l26Levels.mono _ _ _
      | exact LeO.none _
      | refine LeO.ite ?_ ?_
      | refine LeO.bind ?_ (fun _ => ?_)
set_option maxHeartbeats 8000000 in
set_option maxRecDepth 100000 in
theorem spec_l26Stack.calls (k : Nat) (a0 : Int) (a1 : Int) (A2 : Option Addr) (c2 : Nat) (l2 : List Int) (r : Bool) (w : World) (hr2 : Kd.C (Kd.int .i64) w A2 l2.length l2) (hc2 : l2.length ≤ c2) (h : spec_l26Stack.f k a0 a1 l2 = some r) :
    Calls Try.prog 74 #[.int .i64 a0, .int .i64 a1, .slice A2 l2.length c2] w fun e w' => e = .returned (.bool r) ∧ Below w.heap.size w w' := by
  have HR2 := Aside0.mk hr2
  have HC2 := Aside0.mk hc2
  clear hr2 hc2
  have HB := Aside0.mk (Below.refl w.heap.size w)
  have H : ((spec_l26Levels.f k (wrap64 (a0 * a1)) l2).bind fun bt159 => (if bt159.2 = true then ((spec_l26Cross.f k a0 a1 bt159.1).bind fun bt163 => (some (!bt163.2))) else (some false))) = some r := h
  clear h
  replace H := Option.bind_eq_some_iff.mp H
  obtain ⟨⟨t159, t160⟩, A40, H⟩ := H
  replace H : (if t160 = true then ((spec_l26Cross.f k a0 a1 t159).bind fun bt163 => (some (!bt163.2))) else (some false)) = some r := H
  have A4 := Aside0.mk A40
  clear A40
  by_cases c5 : t160 = true
  · subst c5
    rw [if_pos rfl] at H
    replace H := Option.bind_eq_some_iff.mp H
    obtain ⟨⟨t163, t164⟩, A60, H⟩ := H
    replace H : (some (!t164)) = some r := H
    have A6 := Aside0.mk A60
    clear A60
    obtain rfl := Option.some.inj H
    go_enter Try.func74, Try.ntmps74
    go_wp2_with (first | ((with_reducible refine gate_callee (f := 84) rfl ?_); refine gl (some 16) Try.func84 #[.int .i64 (wrap64 (a0 * a1)), .slice A2 l2.length c2] ?_; (with_reducible refine (spec_l26Levels.calls k (wrap64 (a0 * a1)) _ _ l2 t159 true _ ?side1 ?side2 A4.out).mono ?_); (case side1 => repeat (first | exact HR2.out | (with_reducible refine Kd.C_alloc ?_ _) | (with_reducible refine Kd.C_drewN ?_ _) | (with_reducible refine Kd.C_drew ?_))); (case side2 => exact HC2.out); rintro e w7 ⟨v161, rfl, ho0, hb⟩; refine ⟨_, rfl, ?_⟩; have HO162 := Aside0.mk (Kd.R_lower ho0 (below_size bw)); replace HB := bs hb; (try clear hb); (try clear hb2); (try clear hk); (try clear hi); (try clear ho0); obtain ⟨Ao8, co8, eo8⟩ := Kd.R_slice HO162.out; subst eo8) | ((with_reducible refine gate_callee (f := 85) rfl ?_); refine gl (some 25) Try.func85 #[.int .i64 a0, .int .i64 a1, .slice Ao8 t159.length co8] ?_; (with_reducible refine (spec_l26Cross.calls k a0 a1 _ _ t159 t163 t164 _ ?side1 ?side2 A6.out).mono ?_); (case side1 => exact se HO162); (case side2 => exact (Kd.R_reads' HO162.out).2.1); rintro e w9 ⟨v165, rfl, ho0, hb⟩; refine ⟨_, rfl, ?_⟩; have HO166 := Aside0.mk (Kd.R_lower ho0 (below_size bw)); replace HO162 := Aside0.mk (Kd.R_below (ra (h := HO162.out)) hb); replace HB := bs hb; (try clear hb); (try clear hb2); (try clear hk); (try clear hi); (try clear ho0)))
    go_ret
    exact ⟨er, bw⟩
  · replace c5 := Bool.eq_false_iff.mpr c5
    subst c5
    rw [if_neg nf] at H
    obtain rfl := Option.some.inj H
    go_enter Try.func74, Try.ntmps74
    go_wp2_with (first | ((with_reducible refine gate_callee (f := 84) rfl ?_); refine gl (some 16) Try.func84 #[.int .i64 (wrap64 (a0 * a1)), .slice A2 l2.length c2] ?_; (with_reducible refine (spec_l26Levels.calls k (wrap64 (a0 * a1)) _ _ l2 t159 false _ ?side1 ?side2 A4.out).mono ?_); (case side1 => repeat (first | exact HR2.out | (with_reducible refine Kd.C_alloc ?_ _) | (with_reducible refine Kd.C_drewN ?_ _) | (with_reducible refine Kd.C_drew ?_))); (case side2 => exact HC2.out); rintro e w10 ⟨v161, rfl, ho0, hb⟩; refine ⟨_, rfl, ?_⟩; have HO162 := Aside0.mk (Kd.R_lower ho0 (below_size bw)); replace HB := bs hb; (try clear hb); (try clear hb2); (try clear hk); (try clear hi); (try clear ho0)))
    go_ret
    exact ⟨er, bw⟩

/-! ### spec_l26Front: function 87 -/
def spec_l26Front.f (a0 : Int) (a1 : Int) : Option (Bool) := if a0 = 0 then (none) else (some ((Int.tmod (wrap64 ((wrap64 (Int.tdiv a1 a0)) + (Int.tmod a1 a0))) 2) == 0))
set_option maxHeartbeats 8000000 in
set_option maxRecDepth 100000 in
theorem spec_l26Front.calls (a0 : Int) (a1 : Int) (r : Bool) (w : World) (h : spec_l26Front.f a0 a1 = some r) :
    Calls Try.prog 87 #[.int .i64 a0, .int .i64 a1] w fun e w' => e = .returned (.bool r) ∧ Drawn0 w w' := by
  have H : (if a0 = 0 then (none) else (some ((Int.tmod (wrap64 ((wrap64 (Int.tdiv a1 a0)) + (Int.tmod a1 a0))) 2) == 0))) = some r := h
  clear h
  by_cases c3 : a0 = 0
  · rw [if_pos c3] at H
    exact absurd H (by simp)
  · rw [if_neg c3] at H
    have c3b0 : (a0 == 0) = false := beq_eq_false_iff_ne.mpr c3
    have c3b1 : (a0 != 0) = true := bne_iff_ne.mpr c3
    obtain rfl := Option.some.inj H
    go_enter Try.func87, Try.ntmps87
    go_wp2
    repeat (go_quiet (fail); try go_wp2)
    go_ret
    exact ⟨by first | rfl | (simp; done) | (simp [*]; done), by repeat (first | exact Drawn0.refl _ | apply Drawn0.step)⟩

/-! ### spec_StackKinds: function 36 -/
mutual
def spec_StackKinds.l0 : Nat → Int → Int → List Int → List Int → Int → Option (List Int × Int)
  | 0, _, _, _, _, _ => none
  | k + 1, x0, x1, x8, x10, x11 => if x11 < (wrap64 (x0 * x1)) then (spec_StackKinds.l1 k x0 x1 x8 x10 x11 0) else (some (x10, 0))
def spec_StackKinds.l1 : Nat → Int → Int → List Int → List Int → Int → Int → Option (List Int × Int)
  | 0, _, _, _, _, _, _ => none
  | k + 1, x0, x1, x8, x10, x11, x12 => if x12 < 2 then (if x12 = 1 then (spec_StackKinds.j2 k x0 x1 x8 x10 x11 x12 (wrap64 (x11 + x1))) else (spec_StackKinds.j2 k x0 x1 x8 x10 x11 x12 (wrap64 (x11 + 1)))) else (spec_StackKinds.l0 k x0 x1 x8 x10 (wrap64 (x11 + 1)))
def spec_StackKinds.j2 : Nat → Int → Int → List Int → List Int → Int → Int → Int → Option (List Int × Int)
  | 0, _, _, _, _, _, _, _ => none
  | k + 1, x0, x1, x8, x10, x11, x12, x13 => if x12 = 0 then (if x1 = 0 then (none) else (if (wrap64 ((Int.tmod x11 x1) + 1)) = x1 then (spec_StackKinds.j3 k x0 x1 x8 x10 x11 x12 x13 true) else (if x12 = 1 then (spec_StackKinds.j3 k x0 x1 x8 x10 x11 x12 x13 ((wrap64 ((wrap64 (Int.tdiv x11 x1)) + 1)) == x0)) else (spec_StackKinds.j3 k x0 x1 x8 x10 x11 x12 x13 false)))) else (if x12 = 1 then (if x1 = 0 then (none) else (spec_StackKinds.j3 k x0 x1 x8 x10 x11 x12 x13 ((wrap64 ((wrap64 (Int.tdiv x11 x1)) + 1)) == x0))) else (spec_StackKinds.j3 k x0 x1 x8 x10 x11 x12 x13 false))
def spec_StackKinds.j3 : Nat → Int → Int → List Int → List Int → Int → Int → Int → Bool → Option (List Int × Int)
  | 0, _, _, _, _, _, _, _, _ => none
  | k + 1, x0, x1, x8, x10, x11, x12, x13, x74 => if x74 = true then (spec_StackKinds.l1 k x0 x1 x8 x10 x11 (wrap64 (x12 + 1))) else (if 0 ≤ x11 then (if x11 < (x8.length : Int) then (if 0 ≤ x13 then (if x13 < (x8.length : Int) then ((spec_l26Front.f x1 x11).bind fun t184 => (if ((decide ((rd x8 x11) < (rd x8 x13))) == t184) = true then (if x10.length < 17592186044416 then (spec_StackKinds.l1 k x0 x1 x8 (x10 ++ [3]) x11 (wrap64 (x12 + 1))) else (none)) else (if x10.length < 17592186044416 then (spec_StackKinds.l1 k x0 x1 x8 (x10 ++ [2]) x11 (wrap64 (x12 + 1))) else (none)))) else (none)) else (none)) else (none)) else (none))
end
def spec_StackKinds.f (k : Nat) (a0 : Int) (a1 : Int) (l2 : List Int) : Option (List Int × Int) := (spec_l26Ok.f a0 a1).bind fun t167 => (if t167 = true then ((spec_l26Stack.f k a0 a1 l2).bind fun t171 => (if t171 = true then ((spec_l26Levels.f k (wrap64 (a0 * a1)) l2).bind fun bt175 => (spec_StackKinds.l0 k a0 a1 bt175.1 (([] : List Int)) 0)) else (some ((([] : List Int)), 12)))) else (some ((([] : List Int)), 1)))
theorem spec_StackKinds.mono_l : ∀ k, (∀ y0 y1 y2 y3 y4, LeO (spec_StackKinds.l0 k y0 y1 y2 y3 y4) (spec_StackKinds.l0 (k + 1) y0 y1 y2 y3 y4)) ∧ (∀ y0 y1 y2 y3 y4 y5, LeO (spec_StackKinds.l1 k y0 y1 y2 y3 y4 y5) (spec_StackKinds.l1 (k + 1) y0 y1 y2 y3 y4 y5)) ∧ (∀ y0 y1 y2 y3 y4 y5 y6, LeO (spec_StackKinds.j2 k y0 y1 y2 y3 y4 y5 y6) (spec_StackKinds.j2 (k + 1) y0 y1 y2 y3 y4 y5 y6)) ∧ (∀ y0 y1 y2 y3 y4 y5 y6 y7, LeO (spec_StackKinds.j3 k y0 y1 y2 y3 y4 y5 y6 y7) (spec_StackKinds.j3 (k + 1) y0 y1 y2 y3 y4 y5 y6 y7))
  | 0 => ⟨fun _ _ _ _ _ r h => by simp [spec_StackKinds.l0] at h, fun _ _ _ _ _ _ r h => by simp [spec_StackKinds.l1] at h, fun _ _ _ _ _ _ _ r h => by simp [spec_StackKinds.j2] at h, fun _ _ _ _ _ _ _ _ r h => by simp [spec_StackKinds.j3] at h⟩
  | k + 1 => by
    obtain ⟨ih0, ih1, ih2, ih3⟩ := spec_StackKinds.mono_l k
    refine ⟨?_, ?_, ?_, ?_⟩
    · intro y0 y1 y2 y3 y4
      unfold spec_StackKinds.l0
      repeat' first
      | (with_reducible exact ih0 _ _ _ _ _)
      | (with_reducible exact ih1 _ _ _ _ _ _)
      | (with_reducible exact ih2 _ _ _ _ _ _ _)
      | (with_reducible exact ih3 _ _ _ _ _ _ _ _)
      | (with_reducible exact spec_l26Levels.mono _ _ _)
      | (with_reducible exact spec_l26Stack.mono _ _ _ _)
      | (with_reducible exact LeO.refl _)
      | (with_reducible exact LeO.none _)
      | (with_reducible refine LeO.ite ?_ ?_)
      | (with_reducible refine LeO.bind ?_ (fun _ => ?_))
      | exact ih0 _ _ _ _ _
      | exact ih1 _ _ _ _ _ _
      | exact ih2 _ _ _ _ _ _ _
      | exact ih3 _ _ _ _ _ _ _ _
      | exact spec_l26Levels.mono _ _ _
      | exact spec_l26Stack.mono _ _ _ _
      | exact LeO.none _
      | refine LeO.ite ?_ ?_
      | refine LeO.bind ?_ (fun _ => ?_)
    · intro y0 y1 y2 y3 y4 y5
      unfold spec_StackKinds.l1
      repeat' first
      | (with_reducible exact ih0 _ _ _ _ _)
      | (with_reducible exact ih1 _ _ _ _ _ _)
      | (with_reducible exact ih2 _ _ _ _ _ _ _)
      | (with_reducible exact ih3 _ _ _ _ _ _ _ _)
      | (with_reducible exact spec_l26Levels.mono _ _ _)
      | (with_reducible exact spec_l26Stack.mono _ _ _ _)
      | (with_reducible exact LeO.refl _)
      | (with_reducible exact LeO.none _)
      | (with_reducible refine LeO.ite ?_ ?_)
      | (with_reducible refine LeO.bind ?_ (fun _ => ?_))
      | exact ih0 _ _ _ _ _
      | exact ih1 _ _ _ _ _ _
      | exact ih2 _ _ _ _ _ _ _
      | exact ih3 _ _ _ _ _ _ _ _
      | exact spec_l26Levels.mono _ _ _
      | exact spec_l26Stack.mono _ _ _ _
      | exact LeO.none _
      | refine LeO.ite ?_ ?_
      | refine LeO.bind ?_ (fun _ => ?_)
    · intro y0 y1 y2 y3 y4 y5 y6
      unfold spec_StackKinds.j2
      repeat' first
      | (with_reducible exact ih0 _ _ _ _ _)
      | (with_reducible exact ih1 _ _ _ _ _ _)
      | (with_reducible exact ih2 _ _ _ _ _ _ _)
      | (with_reducible exact ih3 _ _ _ _ _ _ _ _)
      | (with_reducible exact spec_l26Levels.mono _ _ _)
      | (with_reducible exact spec_l26Stack.mono _ _ _ _)
      | (with_reducible exact LeO.refl _)
      | (with_reducible exact LeO.none _)
      | (with_reducible refine LeO.ite ?_ ?_)
      | (with_reducible refine LeO.bind ?_ (fun _ => ?_))
      | exact ih0 _ _ _ _ _
      | exact ih1 _ _ _ _ _ _
      | exact ih2 _ _ _ _ _ _ _
      | exact ih3 _ _ _ _ _ _ _ _
      | exact spec_l26Levels.mono _ _ _
      | exact spec_l26Stack.mono _ _ _ _
      | exact LeO.none _
      | refine LeO.ite ?_ ?_
      | refine LeO.bind ?_ (fun _ => ?_)
    · intro y0 y1 y2 y3 y4 y5 y6 y7
      unfold spec_StackKinds.j3
      repeat' first
      | (with_reducible exact ih0 _ _ _ _ _)
      | (with_reducible exact ih1 _ _ _ _ _ _)
      | (with_reducible exact ih2 _ _ _ _ _ _ _)
      | (with_reducible exact ih3 _ _ _ _ _ _ _ _)
      | (with_reducible exact spec_l26Levels.mono _ _ _)
      | (with_reducible exact spec_l26Stack.mono _ _ _ _)
      | (with_reducible exact LeO.refl _)
      | (with_reducible exact LeO.none _)
      | (with_reducible refine LeO.ite ?_ ?_)
      | (with_reducible refine LeO.bind ?_ (fun _ => ?_))
      | exact ih0 _ _ _ _ _
      | exact ih1 _ _ _ _ _ _
      | exact ih2 _ _ _ _ _ _ _
      | exact ih3 _ _ _ _ _ _ _ _
      | exact spec_l26Levels.mono _ _ _
      | exact spec_l26Stack.mono _ _ _ _
      | exact LeO.none _
      | refine LeO.ite ?_ ?_
      | refine LeO.bind ?_ (fun _ => ?_)
theorem spec_StackKinds.mono : ∀ a0 a1 a2 k, LeO (spec_StackKinds.f k a0 a1 a2) (spec_StackKinds.f (k + 1) a0 a1 a2) := by
  intro a0 a1 a2 k
  obtain ⟨ih0, ih1, ih2, ih3⟩ := spec_StackKinds.mono_l k
  unfold spec_StackKinds.f
  repeat' first
      | (with_reducible exact ih0 _ _ _ _ _)
      | (with_reducible exact ih1 _ _ _ _ _ _)
      | (with_reducible exact ih2 _ _ _ _ _ _ _)
      | (with_reducible exact ih3 _ _ _ _ _ _ _ _)
      | (with_reducible exact spec_l26Levels.mono _ _ _)
      | (with_reducible exact spec_l26Stack.mono _ _ _ _)
      | (with_reducible exact LeO.refl _)
      | (with_reducible exact LeO.none _)
      | (with_reducible refine LeO.ite ?_ ?_)
      | (with_reducible refine LeO.bind ?_ (fun _ => ?_))
      | exact ih0 _ _ _ _ _
      | exact ih1 _ _ _ _ _ _
      | exact ih2 _ _ _ _ _ _ _
      | exact ih3 _ _ _ _ _ _ _ _
      | exact spec_l26Levels.mono _ _ _
      | exact spec_l26Stack.mono _ _ _ _
      | exact LeO.none _
      | refine LeO.ite ?_ ?_
      | refine LeO.bind ?_ (fun _ => ?_)
set_option maxHeartbeats 8000000 in
set_option maxRecDepth 100000 in
theorem spec_StackKinds.calls (k : Nat) (a0 : Int) (a1 : Int) (A2 : Option Addr) (c2 : Nat) (l2 : List Int) (r1 : List Int) (r2 : Int) (w : World) (hr2 : Kd.C (Kd.int .i64) w A2 l2.length l2) (hc2 : l2.length ≤ c2) (h : spec_StackKinds.f k a0 a1 l2 = some (r1, r2)) :
    Calls Try.prog 36 #[.int .i64 a0, .int .i64 a1, .slice A2 l2.length c2] w fun e w' => ∃ v0_ : Value, e = .returned (.tuple #[v0_, .int .i64 r2]) ∧ Kd.R (Kd.int .i64) 2 w' w.heap.size (fun _ => True) v0_ r1 ∧ Below w.heap.size w w' := by
  have HR2 := Aside0.mk hr2
  have HC2 := Aside0.mk hc2
  clear hr2 hc2
  have HB := Aside0.mk (Below.refl w.heap.size w)
  have H : ((spec_l26Ok.f a0 a1).bind fun t167 => (if t167 = true then ((spec_l26Stack.f k a0 a1 l2).bind fun t171 => (if t171 = true then ((spec_l26Levels.f k (wrap64 (a0 * a1)) l2).bind fun bt175 => (spec_StackKinds.l0 k a0 a1 bt175.1 (([] : List Int)) 0)) else (some ((([] : List Int)), 12)))) else (some ((([] : List Int)), 1)))) = some (r1, r2) := h
  clear h
  replace H := Option.bind_eq_some_iff.mp H
  obtain ⟨t167, A40, H⟩ := H
  replace H : (if t167 = true then ((spec_l26Stack.f k a0 a1 l2).bind fun t171 => (if t171 = true then ((spec_l26Levels.f k (wrap64 (a0 * a1)) l2).bind fun bt175 => (spec_StackKinds.l0 k a0 a1 bt175.1 (([] : List Int)) 0)) else (some ((([] : List Int)), 12)))) else (some ((([] : List Int)), 1))) = some (r1, r2) := H
  have A4 := Aside0.mk A40
  clear A40
  by_cases c5 : t167 = true
  · subst c5
    rw [if_pos rfl] at H
    replace H := Option.bind_eq_some_iff.mp H
    obtain ⟨t171, A60, H⟩ := H
    replace H : (if t171 = true then ((spec_l26Levels.f k (wrap64 (a0 * a1)) l2).bind fun bt175 => (spec_StackKinds.l0 k a0 a1 bt175.1 (([] : List Int)) 0)) else (some ((([] : List Int)), 12))) = some (r1, r2) := H
    have A6 := Aside0.mk A60
    clear A60
    by_cases c7 : t171 = true
    · subst c7
      rw [if_pos rfl] at H
      replace H := Option.bind_eq_some_iff.mp H
      obtain ⟨⟨t175, t176⟩, A80, H⟩ := H
      replace H : (spec_StackKinds.l0 k a0 a1 t175 (([] : List Int)) 0) = some (r1, r2) := H
      have A8 := Aside0.mk A80
      clear A80
      obtain ⟨y179, hy179⟩ : ∃ y_ : List Int, y_ = (([] : List Int)) := ⟨_, rfl⟩
      replace H : (spec_StackKinds.l0 k a0 a1 t175 y179 0) = some (r1, r2) := by first | (rw [hy179]; with_reducible exact H) | (have H2_ := (Option.bind_some _ _).symm.trans H; rw [hy179]; with_reducible exact H2_) | (have H2_ := (Option.bind_some _ _).symm.trans H; with_reducible exact H2_) | with_reducible exact H | (rw [hy179]; exact H) | exact H
      have Ny179 := Aside0.mk hy179
      clear hy179
      have H' := Aside0.mk H
      clear H
      go_enter Try.func36, Try.ntmps36
      go_wp2_with (first | (go_at_call 73; (with_reducible refine (spec_l26Ok.calls a0 a1 true _ A4.out).mono ?_); rintro e w' ⟨rfl, ⟨nd, rfl⟩⟩; (try first | exact ⟨rfl, _, World.drewN_drewN _ _ _⟩ | exact ⟨rfl, _, Eq.trans (World.drewN_drewN _ _ _) (congrArg (World.drewN _) (Nat.add_assoc _ _ _))⟩)) | (go_at_call 74; (with_reducible refine (spec_l26Stack.calls k a0 a1 _ _ l2 true _ ?side1 ?side2 A6.out).mono ?_); (case side1 => repeat (first | exact HR2.out | (with_reducible refine Kd.C_alloc ?_ _) | (with_reducible refine Kd.C_drewN ?_ _) | (with_reducible refine Kd.C_drew ?_))); (case side2 => exact HC2.out); rintro e w9 ⟨rfl, hb⟩; replace HB := bs hb; (try clear hb); (try clear hb2); (try clear hk); (try clear hi)) | (go_at_call 84; (with_reducible refine (spec_l26Levels.calls k (wrap64 (a0 * a1)) _ _ l2 t175 t176 _ ?side1 ?side2 A8.out).mono ?_); (case side1 => exact sd HR2); (case side2 => exact HC2.out); rintro e w10 ⟨v177, rfl, ho0, hb⟩; have HO178 := Aside0.mk (Kd.R_lower ho0 (below_size bw)); replace HB := bs hb; (try clear hb); (try clear hb2); (try clear hk); (try clear hi); (try clear ho0)) | ((with_reducible refine gate_dst (N := 34) rfl ?_); refine Kd.R_lit (Kd.int .i64) _ 2 ?hg (N := 34) ?hd (xs := ([] : List Int)) (inner := []) (ok := fun _ => True) (okp := fun _ => True) ?hr ?hp (fun _ hk => hk) trivial (Below.refl _ _) (Nat.le_refl _) (by simp) ?_; (case hd => rfl); (case hg => rfl); (case hr => first | (go_simp; done) | (go_simp; rfl)); (case hp => exact (Reps.none _ _)); intro v180 w11 ho12 hb hg_ hnew_; clear hg_ hnew_; (first | rw [← Ny179.out] at ho12 | (simp only [Int.reduceToNat] at ho12; rw [← Ny179.out] at ho12)); have HO181 := Aside0.mk (Kd.R_lower (Kd.R_new' ho12 (Kd.R_lt (ra (h := HO178.out)))) (below_size bw)); replace HO178 := Aside0.mk (Kd.R_elder' (ra (h := HO178.out)) (Kd.R_base ho12) hb); replace HB := bs hb; clear hb ho12))
      repeat (go_quiet (first | (go_at_call 73; (with_reducible refine (spec_l26Ok.calls a0 a1 true _ A4.out).mono ?_); rintro e w' ⟨rfl, ⟨nd, rfl⟩⟩; (try first | exact ⟨rfl, _, World.drewN_drewN _ _ _⟩ | exact ⟨rfl, _, Eq.trans (World.drewN_drewN _ _ _) (congrArg (World.drewN _) (Nat.add_assoc _ _ _))⟩)) | (go_at_call 74; (with_reducible refine (spec_l26Stack.calls k a0 a1 _ _ l2 true _ ?side1 ?side2 A6.out).mono ?_); (case side1 => repeat (first | exact HR2.out | (with_reducible refine Kd.C_alloc ?_ _) | (with_reducible refine Kd.C_drewN ?_ _) | (with_reducible refine Kd.C_drew ?_))); (case side2 => exact HC2.out); rintro e w9 ⟨rfl, hb⟩; replace HB := bs hb; (try clear hb); (try clear hb2); (try clear hk); (try clear hi)) | (go_at_call 84; (with_reducible refine (spec_l26Levels.calls k (wrap64 (a0 * a1)) _ _ l2 t175 t176 _ ?side1 ?side2 A8.out).mono ?_); (case side1 => exact sd HR2); (case side2 => exact HC2.out); rintro e w10 ⟨v177, rfl, ho0, hb⟩; have HO178 := Aside0.mk (Kd.R_lower ho0 (below_size bw)); replace HB := bs hb; (try clear hb); (try clear hb2); (try clear hk); (try clear hi); (try clear ho0)) | ((with_reducible refine gate_dst (N := 34) rfl ?_); refine Kd.R_lit (Kd.int .i64) _ 2 ?hg (N := 34) ?hd (xs := ([] : List Int)) (inner := []) (ok := fun _ => True) (okp := fun _ => True) ?hr ?hp (fun _ hk => hk) trivial (Below.refl _ _) (Nat.le_refl _) (by simp) ?_; (case hd => rfl); (case hg => rfl); (case hr => first | (go_simp; done) | (go_simp; rfl)); (case hp => exact (Reps.none _ _)); intro v180 w11 ho12 hb hg_ hnew_; clear hg_ hnew_; (first | rw [← Ny179.out] at ho12 | (simp only [Int.reduceToNat] at ho12; rw [← Ny179.out] at ho12)); have HO181 := Aside0.mk (Kd.R_lower (Kd.R_new' ho12 (Kd.R_lt (ra (h := HO178.out)))) (below_size bw)); replace HO178 := Aside0.mk (Kd.R_elder' (ra (h := HO178.out)) (Kd.R_base ho12) hb); replace HB := bs hb; clear hb ho12)); try go_wp2_with (first | (go_at_call 73; (with_reducible refine (spec_l26Ok.calls a0 a1 true _ A4.out).mono ?_); rintro e w' ⟨rfl, ⟨nd, rfl⟩⟩; (try first | exact ⟨rfl, _, World.drewN_drewN _ _ _⟩ | exact ⟨rfl, _, Eq.trans (World.drewN_drewN _ _ _) (congrArg (World.drewN _) (Nat.add_assoc _ _ _))⟩)) | (go_at_call 74; (with_reducible refine (spec_l26Stack.calls k a0 a1 _ _ l2 true _ ?side1 ?side2 A6.out).mono ?_); (case side1 => repeat (first | exact HR2.out | (with_reducible refine Kd.C_alloc ?_ _) | (with_reducible refine Kd.C_drewN ?_ _) | (with_reducible refine Kd.C_drew ?_))); (case side2 => exact HC2.out); rintro e w9 ⟨rfl, hb⟩; replace HB := bs hb; (try clear hb); (try clear hb2); (try clear hk); (try clear hi)) | (go_at_call 84; (with_reducible refine (spec_l26Levels.calls k (wrap64 (a0 * a1)) _ _ l2 t175 t176 _ ?side1 ?side2 A8.out).mono ?_); (case side1 => exact sd HR2); (case side2 => exact HC2.out); rintro e w10 ⟨v177, rfl, ho0, hb⟩; have HO178 := Aside0.mk (Kd.R_lower ho0 (below_size bw)); replace HB := bs hb; (try clear hb); (try clear hb2); (try clear hk); (try clear hi); (try clear ho0)) | ((with_reducible refine gate_dst (N := 34) rfl ?_); refine Kd.R_lit (Kd.int .i64) _ 2 ?hg (N := 34) ?hd (xs := ([] : List Int)) (inner := []) (ok := fun _ => True) (okp := fun _ => True) ?hr ?hp (fun _ hk => hk) trivial (Below.refl _ _) (Nat.le_refl _) (by simp) ?_; (case hd => rfl); (case hg => rfl); (case hr => first | (go_simp; done) | (go_simp; rfl)); (case hp => exact (Reps.none _ _)); intro v180 w11 ho12 hb hg_ hnew_; clear hg_ hnew_; (first | rw [← Ny179.out] at ho12 | (simp only [Int.reduceToNat] at ho12; rw [← Ny179.out] at ho12)); have HO181 := Aside0.mk (Kd.R_lower (Kd.R_new' ho12 (Kd.R_lt (ra (h := HO178.out)))) (below_size bw)); replace HO178 := Aside0.mk (Kd.R_elder' (ra (h := HO178.out)) (Kd.R_base ho12) hb); replace HB := bs hb; clear hb ho12)))
      go_loopg [10, 11] k (fun kq v10 v11 w' => ∃ (x10_1 : List Int) (x11_1 : Int), v11 = .int .i64 x11_1 ∧ Aside0 (spec_StackKinds.l0 kq a0 a1 t175 x10_1 x11_1 = some (r1, r2)) ∧ Aside0 (kq ≤ k) ∧ Aside0 (Kd.R (Kd.int .i64) 2 w' w.heap.size (fun k_ => some k_ ≠ (v10 : Value).ownBlock) v177 t175) ∧ Aside0 (Kd.R (Kd.int .i64) 2 w' w.heap.size (fun k_ => some k_ ≠ (v177 : Value).ownBlock) v10 x10_1) ∧ Aside0 (Below w.heap.size w w'))
      case atStart => exact ⟨(y179), (0), (by first | rfl | (simp; done) | (simp [*]; done)), H', ⟨Nat.le_refl _⟩, ⟨by refine ra (h := ?_); exact Kd.R_mono HO178.out (fun _ hk => hk.2)⟩, ⟨by refine ra (h := ?_); exact Kd.R_mono HO181.out (fun _ hk => hk.2)⟩, ⟨bw⟩⟩
      case round =>
        clear H'
        try clear c2
        try clear p2
        try clear c3
        try clear c5
        try clear p6
        try clear c7
        obtain ⟨x10_1, x11_1, rfl, HA, HK1, HO_8, HO_10, HB⟩ := hrel
        cases gk with
        | zero => exact absurd HA.out (by simp [spec_StackKinds.l0])
        | succ k1 =>
          have H := HA.out
          clear HA
          simp only [spec_StackKinds.l0] at H
          by_cases c13 : x11_1 < (wrap64 (a0 * a1))
          · rw [if_pos c13] at H
            have c13b0 : decide (x11_1 < (wrap64 (a0 * a1))) = true := decide_eq_true c13
            clear c13
            have H' := Aside0.mk H
            clear H
            go_wp2
            repeat (go_quiet (fail); try go_wp2)
            go_loopg [10, 12] k1 (fun kq v10 v12 w' => ∃ (x10_2 : List Int) (x12_2 : Int), v12 = .int .i64 x12_2 ∧ Aside0 (spec_StackKinds.l1 kq a0 a1 t175 x10_2 x11_1 x12_2 = some (r1, r2)) ∧ Aside0 (kq ≤ k1) ∧ Aside0 (Kd.R (Kd.int .i64) 2 w' w.heap.size (fun k_ => some k_ ≠ (v10 : Value).ownBlock) v177 t175) ∧ Aside0 (Kd.R (Kd.int .i64) 2 w' w.heap.size (fun k_ => some k_ ≠ (v177 : Value).ownBlock) v10 x10_2) ∧ Aside0 (Below w.heap.size w w'))
            case atStart => exact ⟨(x10_1), (0), (by first | rfl | (simp; done) | (simp [*]; done)), H', ⟨Nat.le_refl _⟩, ⟨by refine ra (h := ?_); exact HO_8.out⟩, ⟨by refine ra (h := ?_); exact HO_10.out⟩, ⟨bw⟩⟩
            case round =>
              clear H'
              try clear c1
              try clear c2
              try clear p2
              try clear c3
              try clear c5
              try clear p6
              try clear c7
              try clear c13
              try clear c13b0
              try clear p2
              try clear p6
              obtain ⟨x10_2, x12_2, rfl, HA, HK2, HO_8, HO_10, HB⟩ := hrel
              cases gk with
              | zero => exact absurd HA.out (by simp [spec_StackKinds.l1])
              | succ k2 =>
                have H := HA.out
                clear HA
                simp only [spec_StackKinds.l1] at H
                by_cases c14 : x12_2 < 2
                · rw [if_pos c14] at H
                  have c14b0 : decide (x12_2 < 2) = true := decide_eq_true c14
                  clear c14
                  have HC15 := Aside0.mk H
                  clear H
                  go_upto_if 49 with (fail)
                  repeat (go_quiet (fail); go_upto_if 49 with (fail))
                  go_cut [13] (fun v13 wc => ∃ (kq : Nat) (x13_14 : Int), v13 = .int .i64 x13_14 ∧ Aside0 (spec_StackKinds.j2 kq a0 a1 t175 x10_2 x11_1 x12_2 x13_14 = some (r1, r2)) ∧ Aside0 (kq ≤ k2) ∧ Aside0 (Kd.R (Kd.int .i64) 2 wc w.heap.size (fun k_ => some k_ ≠ (u10 : Value).ownBlock) v177 t175) ∧ Aside0 (Kd.R (Kd.int .i64) 2 wc w.heap.size (fun k_ => some k_ ≠ (v177 : Value).ownBlock) u10 x10_2) ∧ Aside0 (Below w.heap.size w wc))
                  case first =>
                    have H := HC15.out
                    clear HC15
                    by_cases c16 : x12_2 = 1
                    · rw [if_pos c16] at H
                      have c16b0 : (x12_2 == 1) = true := beq_iff_eq.mpr c16
                      have c16b1 : (x12_2 != 1) = false := bne_eq_false_iff_eq.mpr c16
                      clear c16
                      (first | rw [c16b0] | (simp only [i64_w, i32_w]; rw [c16b0]) | skip)
                      have H' := Aside0.mk H
                      clear H
                      go_wp2
                      repeat (go_quiet (fail); try go_wp2)
                      go_meet
                      case rel => exact ⟨_, (wrap64 (x11_1 + a1)), (by first | rfl | (simp; done) | (simp [*]; done)), H', ⟨by have := HK1.out; have := HK2.out; first | omega | exact Nat.le_refl _⟩, ⟨by refine ra (h := ?_); exact HO_8.out⟩, ⟨by refine ra (h := ?_); exact HO_10.out⟩, ⟨bw⟩⟩
                    · rw [if_neg c16] at H
                      have c16b0 : (x12_2 == 1) = false := beq_eq_false_iff_ne.mpr c16
                      have c16b1 : (x12_2 != 1) = true := bne_iff_ne.mpr c16
                      (first | rw [c16b0] | (simp only [i64_w, i32_w]; rw [c16b0]) | skip)
                      have H' := Aside0.mk H
                      clear H
                      go_wp2
                      repeat (go_quiet (fail); try go_wp2)
                      go_meet
                      case rel => exact ⟨_, (wrap64 (x11_1 + 1)), (by first | rfl | (simp; done) | (simp [*]; done)), H', ⟨by have := HK1.out; have := HK2.out; first | omega | exact Nat.le_refl _⟩, ⟨by refine ra (h := ?_); exact HO_8.out⟩, ⟨by refine ra (h := ?_); exact HO_10.out⟩, ⟨bw⟩⟩
                  case rest =>
                    clear HC15
                    try clear c1
                    try clear c2
                    try clear p2
                    try clear c3
                    try clear c5
                    try clear p6
                    try clear c7
                    try clear c13
                    try clear c13b0
                    try clear c14
                    try clear c14b0
                    try clear c16
                    try clear c16b0
                    try clear c16b1
                    try clear p2
                    try clear p6
                    obtain ⟨kq, x13_14, rfl, HA, HJ14, HO_8, HO_10, HB⟩ := hcut
                    cases kq with
                    | zero => exact absurd HA.out (by simp [spec_StackKinds.j2])
                    | succ kj14 =>
                      have H := HA.out
                      clear HA
                      simp only [spec_StackKinds.j2] at H
                      have HC17 := Aside0.mk H
                      clear H
                      go_upto_region 16 with (fail)
                      repeat (go_quiet (fail); go_upto_region 16 with (fail))
                      go_cut [74] (fun v74 wc => ∃ (kq : Nat) (x74_16 : Bool), v74 = .bool x74_16 ∧ Aside0 (spec_StackKinds.j3 kq a0 a1 t175 x10_2 x11_1 x12_2 x13_14 x74_16 = some (r1, r2)) ∧ Aside0 (kq ≤ kj14) ∧ Aside0 (Kd.R (Kd.int .i64) 2 wc w.heap.size (fun k_ => some k_ ≠ (u10 : Value).ownBlock) v177 t175) ∧ Aside0 (Kd.R (Kd.int .i64) 2 wc w.heap.size (fun k_ => some k_ ≠ (v177 : Value).ownBlock) u10 x10_2) ∧ Aside0 (Below w.heap.size w wc))
                      case first =>
                        have H := HC17.out
                        clear HC17
                        by_cases c18 : x12_2 = 0
                        · rw [if_pos c18] at H
                          have c18b0 : (x12_2 == 0) = true := beq_iff_eq.mpr c18
                          have c18b1 : (x12_2 != 0) = false := bne_eq_false_iff_eq.mpr c18
                          clear c18
                          (first | rw [c18b0] | (simp only [i64_w, i32_w]; rw [c18b0]) | skip)
                          by_cases c19 : a1 = 0
                          · rw [if_pos c19] at H
                            exact absurd H (by simp)
                          · rw [if_neg c19] at H
                            have c19b0 : (a1 == 0) = false := beq_eq_false_iff_ne.mpr c19
                            have c19b1 : (a1 != 0) = true := bne_iff_ne.mpr c19
                            by_cases c20 : (wrap64 ((Int.tmod x11_1 a1) + 1)) = a1
                            · rw [if_pos c20] at H
                              have c20b0 : ((wrap64 ((Int.tmod x11_1 a1) + 1)) == a1) = true := beq_iff_eq.mpr c20
                              have c20b1 : ((wrap64 ((Int.tmod x11_1 a1) + 1)) != a1) = false := bne_eq_false_iff_eq.mpr c20
                              clear c20
                              have H' := Aside0.mk H
                              clear H
                              go_wp2
                              repeat (go_quiet (fail); try go_wp2)
                              go_meet
                              case rel => exact ⟨_, (true), (by first | rfl | (simp; done) | (simp [*]; done)), H', ⟨by have := HK1.out; have := HK2.out; have := HJ14.out; first | omega | exact Nat.le_refl _⟩, ⟨by refine ra (h := ?_); exact HO_8.out⟩, ⟨by refine ra (h := ?_); exact HO_10.out⟩, ⟨bw⟩⟩
                            · rw [if_neg c20] at H
                              have c20b0 : ((wrap64 ((Int.tmod x11_1 a1) + 1)) == a1) = false := beq_eq_false_iff_ne.mpr c20
                              have c20b1 : ((wrap64 ((Int.tmod x11_1 a1) + 1)) != a1) = true := bne_iff_ne.mpr c20
                              by_cases c21 : x12_2 = 1
                              · rw [if_pos c21] at H
                                have c21b0 : (x12_2 == 1) = true := beq_iff_eq.mpr c21
                                have c21b1 : (x12_2 != 1) = false := bne_eq_false_iff_eq.mpr c21
                                clear c21
                                have H' := Aside0.mk H
                                clear H
                                go_wp2
                                repeat (go_quiet (fail); try go_wp2)
                                go_meet
                                case rel => exact ⟨_, (((wrap64 ((wrap64 (Int.tdiv x11_1 a1)) + 1)) == a0)), (by first | rfl | (simp; done) | (simp [*]; done)), H', ⟨by have := HK1.out; have := HK2.out; have := HJ14.out; first | omega | exact Nat.le_refl _⟩, ⟨by refine ra (h := ?_); exact HO_8.out⟩, ⟨by refine ra (h := ?_); exact HO_10.out⟩, ⟨bw⟩⟩
                              · rw [if_neg c21] at H
                                have c21b0 : (x12_2 == 1) = false := beq_eq_false_iff_ne.mpr c21
                                have c21b1 : (x12_2 != 1) = true := bne_iff_ne.mpr c21
                                have H' := Aside0.mk H
                                clear H
                                go_wp2
                                repeat (go_quiet (fail); try go_wp2)
                                go_meet
                                case rel => exact ⟨_, (false), (by first | rfl | (simp; done) | (simp [*]; done)), H', ⟨by have := HK1.out; have := HK2.out; have := HJ14.out; first | omega | exact Nat.le_refl _⟩, ⟨by refine ra (h := ?_); exact HO_8.out⟩, ⟨by refine ra (h := ?_); exact HO_10.out⟩, ⟨bw⟩⟩
                        · rw [if_neg c18] at H
                          have c18b0 : (x12_2 == 0) = false := beq_eq_false_iff_ne.mpr c18
                          have c18b1 : (x12_2 != 0) = true := bne_iff_ne.mpr c18
                          (first | rw [c18b0] | (simp only [i64_w, i32_w]; rw [c18b0]) | skip)
                          by_cases c22 : x12_2 = 1
                          · rw [if_pos c22] at H
                            have c22b0 : (x12_2 == 1) = true := beq_iff_eq.mpr c22
                            have c22b1 : (x12_2 != 1) = false := bne_eq_false_iff_eq.mpr c22
                            clear c22
                            by_cases c23 : a1 = 0
                            · rw [if_pos c23] at H
                              exact absurd H (by simp)
                            · rw [if_neg c23] at H
                              have c23b0 : (a1 == 0) = false := beq_eq_false_iff_ne.mpr c23
                              have c23b1 : (a1 != 0) = true := bne_iff_ne.mpr c23
                              have H' := Aside0.mk H
                              clear H
                              go_wp2
                              repeat (go_quiet (fail); try go_wp2)
                              go_meet
                              case rel => exact ⟨_, (((wrap64 ((wrap64 (Int.tdiv x11_1 a1)) + 1)) == a0)), (by first | rfl | (simp; done) | (simp [*]; done)), H', ⟨by have := HK1.out; have := HK2.out; have := HJ14.out; first | omega | exact Nat.le_refl _⟩, ⟨by refine ra (h := ?_); exact HO_8.out⟩, ⟨by refine ra (h := ?_); exact HO_10.out⟩, ⟨bw⟩⟩
                          · rw [if_neg c22] at H
                            have c22b0 : (x12_2 == 1) = false := beq_eq_false_iff_ne.mpr c22
                            have c22b1 : (x12_2 != 1) = true := bne_iff_ne.mpr c22
                            have H' := Aside0.mk H
                            clear H
                            go_wp2
                            repeat (go_quiet (fail); try go_wp2)
                            go_meet
                            case rel => exact ⟨_, (false), (by first | rfl | (simp; done) | (simp [*]; done)), H', ⟨by have := HK1.out; have := HK2.out; have := HJ14.out; first | omega | exact Nat.le_refl _⟩, ⟨by refine ra (h := ?_); exact HO_8.out⟩, ⟨by refine ra (h := ?_); exact HO_10.out⟩, ⟨bw⟩⟩
                      case rest =>
                        clear HC17
                        try clear c1
                        try clear c2
                        try clear p2
                        try clear c3
                        try clear c5
                        try clear p6
                        try clear c7
                        try clear c13
                        try clear c13b0
                        try clear c14
                        try clear c14b0
                        try clear c16
                        try clear c16b0
                        try clear c16b1
                        try clear c18
                        try clear c18b0
                        try clear c18b1
                        try clear c19
                        try clear c19b0
                        try clear c19b1
                        try clear c20
                        try clear c20b0
                        try clear c20b1
                        try clear c21
                        try clear c21b0
                        try clear c21b1
                        try clear c22
                        try clear c22b0
                        try clear c22b1
                        try clear c23
                        try clear c23b0
                        try clear c23b1
                        try clear p2
                        try clear p6
                        obtain ⟨kq, x74_16, rfl, HA, HJ16, HO_8, HO_10, HB⟩ := hcut
                        cases kq with
                        | zero => exact absurd HA.out (by simp [spec_StackKinds.j3])
                        | succ kj16 =>
                          have H := HA.out
                          clear HA
                          simp only [spec_StackKinds.j3] at H
                          by_cases c24 : x74_16 = true
                          · subst c24
                            rw [if_pos rfl] at H
                            have H' := Aside0.mk H
                            clear H
                            go_wp2
                            repeat (go_quiet (fail); try go_wp2)
                            go_roundg kj16
                            case measure => have := HK1.out; have := HK2.out; have := HJ14.out; have := HJ16.out; omega
                            case rel => exact ⟨(x10_2), (wrap64 (x12_2 + 1)), (by first | rfl | (simp; done) | (simp [*]; done)), H', ⟨by have := HK1.out; have := HK2.out; have := HJ14.out; have := HJ16.out; omega⟩, ⟨by refine ra (h := ?_); exact HO_8.out⟩, ⟨by refine ra (h := ?_); exact HO_10.out⟩, ⟨bw⟩⟩
                          · replace c24 := Bool.eq_false_iff.mpr c24
                            subst c24
                            rw [if_neg nf] at H
                            by_cases c25 : 0 ≤ x11_1
                            · rw [if_pos c25] at H
                              have c25b0 : decide (0 ≤ x11_1) = true := decide_eq_true c25
                              clear c25
                              by_cases c26 : x11_1 < (t175.length : Int)
                              · rw [if_pos c26] at H
                                have c26b0 : decide (x11_1 < (t175.length : Int)) = true := decide_eq_true c26
                                clear c26
                                by_cases c27 : 0 ≤ x13_14
                                · rw [if_pos c27] at H
                                  have c27b0 : decide (0 ≤ x13_14) = true := decide_eq_true c27
                                  clear c27
                                  by_cases c28 : x13_14 < (t175.length : Int)
                                  · rw [if_pos c28] at H
                                    have c28b0 : decide (x13_14 < (t175.length : Int)) = true := decide_eq_true c28
                                    clear c28
                                    replace H := Option.bind_eq_some_iff.mp H
                                    obtain ⟨t184, A290, H⟩ := H
                                    replace H : (if ((decide ((rd t175 x11_1) < (rd t175 x13_14))) == t184) = true then (if x10_2.length < 17592186044416 then (spec_StackKinds.l1 kj16 a0 a1 t175 (x10_2 ++ [3]) x11_1 (wrap64 (x12_2 + 1))) else (none)) else (if x10_2.length < 17592186044416 then (spec_StackKinds.l1 kj16 a0 a1 t175 (x10_2 ++ [2]) x11_1 (wrap64 (x12_2 + 1))) else (none))) = some (r1, r2) := H
                                    have A29 := Aside0.mk A290
                                    clear A290
                                    by_cases c30 : ((decide ((rd t175 x11_1) < (rd t175 x13_14))) == t184) = true
                                    · rw [if_pos c30] at H
                                      have c30b0 : ((decide ((rd t175 x11_1) < (rd t175 x13_14))) == t184) = true := c30
                                      (try (have c30b1 : decide ((decide ((rd t175 x11_1) < (rd t175 x13_14))) = t184) = true := by simpa using c30))
                                      (try (have c30b2 : ((decide ((rd t175 x11_1) < (rd t175 x13_14))) == t184) = true := by simpa using c30))
                                      clear c30
                                      by_cases c31 : x10_2.length < 17592186044416
                                      · rw [if_pos c31] at H
                                        have LMc31 := Aside0.mk c31
                                        clear c31
                                        obtain ⟨y185, hy185⟩ : ∃ y_ : List Int, y_ = (x10_2 ++ [3]) := ⟨_, rfl⟩
                                        replace H : (spec_StackKinds.l1 kj16 a0 a1 t175 y185 x11_1 (wrap64 (x12_2 + 1))) = some (r1, r2) := by first | (rw [hy185]; with_reducible exact H) | (have H2_ := (Option.bind_some _ _).symm.trans H; rw [hy185]; with_reducible exact H2_) | (have H2_ := (Option.bind_some _ _).symm.trans H; with_reducible exact H2_) | with_reducible exact H | (rw [hy185]; exact H) | exact H
                                        have Ny185 := Aside0.mk hy185
                                        clear hy185
                                        have H' := Aside0.mk H
                                        clear H
                                        obtain ⟨Ao32, co32, eo32⟩ := Kd.R_slice HO_8.out
                                        subst eo32
                                        have p182 : 0 ≤ (x11_1 : Int) := od
                                        have q182 : x11_1 < (t175.length : Int) := od
                                        obtain ⟨ad182, e182, hx182_0⟩ := Kd.at_int (Kd.R_reads' HO_8.out).2.2 x11_1 p182 q182
                                        cases e182
                                        replace p182 := eq_true p182
                                        replace q182 := eq_true q182
                                        have p183 : 0 ≤ (x13_14 : Int) := od
                                        have q183 : x13_14 < (t175.length : Int) := od
                                        obtain ⟨ad183, e183, hx183_0⟩ := Kd.at_int (Kd.R_reads' HO_8.out).2.2 x13_14 p183 q183
                                        obtain rfl : ad182 = ad183 := (by injection e183)
                                        replace p183 := eq_true p183
                                        replace q183 := eq_true q183
                                        go_wp2_with (first | (go_at_call 87; (with_reducible refine (spec_l26Front.calls a1 x11_1 t184 _ A29.out).mono ?_); rintro e w' ⟨rfl, ⟨nd, rfl⟩⟩; (try first | exact ⟨rfl, _, World.drewN_drewN _ _ _⟩ | exact ⟨rfl, _, Eq.trans (World.drewN_drewN _ _ _) (congrArg (World.drewN _) (Nat.add_assoc _ _ _))⟩)) | ((with_reducible refine gate_builtin (b := .append) (xs := #[.tmp 88, .tmp 90]) rfl ?_); at_builtin; refine Kd.R_append (Kd.int .i64) (w0 := w) w.heap.size rfl (.tmp 88) (.tmp 90) 24 2 (.int .i64 0) 8 rfl Try.underlying24 info2 rfl (by decide) (by omega) u10 x10_2 3 [.int .i64 3] (fun k_ => some k_ ≠ (.slice (some ad182) t175.length co32 : Value).ownBlock) (fun _ => False) rfl rfl ?aP (fun _ hk => hk.elim) ?aF ?aO ?aB ?aS ?aL ?_; (case aP => exact rfl); (case aB => exact bw); (case aF => exact (fun k_ hk => Kd.fresh' (Kd.R_lt (ra (h := HO_8.out))) k_ hk)); (case aO => exact (ra (h := HO_10.out))); (case aS => exact (below_size bw)); (case aL => have := LMc31.out; omega); intro v186 w33 ho hb hg hat; rw [← Ny185.out] at ho; have HO187 := Aside0.mk (ho); replace HO_8 := Aside0.mk (Kd.R_after (ok := (fun _ => True)) (by refine ra (h := ?_); exact Kd.R_mono HO_8.out (fun _ hk => ⟨trivial, hk⟩)) hg hat); replace HB := Aside0.mk (hb); clear HO_10; clear ho hb hg hat))
                                        repeat (go_quiet (first | (go_at_call 87; (with_reducible refine (spec_l26Front.calls a1 x11_1 t184 _ A29.out).mono ?_); rintro e w' ⟨rfl, ⟨nd, rfl⟩⟩; (try first | exact ⟨rfl, _, World.drewN_drewN _ _ _⟩ | exact ⟨rfl, _, Eq.trans (World.drewN_drewN _ _ _) (congrArg (World.drewN _) (Nat.add_assoc _ _ _))⟩)) | ((with_reducible refine gate_builtin (b := .append) (xs := #[.tmp 88, .tmp 90]) rfl ?_); at_builtin; refine Kd.R_append (Kd.int .i64) (w0 := w) w.heap.size rfl (.tmp 88) (.tmp 90) 24 2 (.int .i64 0) 8 rfl Try.underlying24 info2 rfl (by decide) (by omega) u10 x10_2 3 [.int .i64 3] (fun k_ => some k_ ≠ (.slice (some ad182) t175.length co32 : Value).ownBlock) (fun _ => False) rfl rfl ?aP (fun _ hk => hk.elim) ?aF ?aO ?aB ?aS ?aL ?_; (case aP => exact rfl); (case aB => exact bw); (case aF => exact (fun k_ hk => Kd.fresh' (Kd.R_lt (ra (h := HO_8.out))) k_ hk)); (case aO => exact (ra (h := HO_10.out))); (case aS => exact (below_size bw)); (case aL => have := LMc31.out; omega); intro v186 w33 ho hb hg hat; rw [← Ny185.out] at ho; have HO187 := Aside0.mk (ho); replace HO_8 := Aside0.mk (Kd.R_after (ok := (fun _ => True)) (by refine ra (h := ?_); exact Kd.R_mono HO_8.out (fun _ hk => ⟨trivial, hk⟩)) hg hat); replace HB := Aside0.mk (hb); clear HO_10; clear ho hb hg hat)); try go_wp2_with (first | (go_at_call 87; (with_reducible refine (spec_l26Front.calls a1 x11_1 t184 _ A29.out).mono ?_); rintro e w' ⟨rfl, ⟨nd, rfl⟩⟩; (try first | exact ⟨rfl, _, World.drewN_drewN _ _ _⟩ | exact ⟨rfl, _, Eq.trans (World.drewN_drewN _ _ _) (congrArg (World.drewN _) (Nat.add_assoc _ _ _))⟩)) | ((with_reducible refine gate_builtin (b := .append) (xs := #[.tmp 88, .tmp 90]) rfl ?_); at_builtin; refine Kd.R_append (Kd.int .i64) (w0 := w) w.heap.size rfl (.tmp 88) (.tmp 90) 24 2 (.int .i64 0) 8 rfl Try.underlying24 info2 rfl (by decide) (by omega) u10 x10_2 3 [.int .i64 3] (fun k_ => some k_ ≠ (.slice (some ad182) t175.length co32 : Value).ownBlock) (fun _ => False) rfl rfl ?aP (fun _ hk => hk.elim) ?aF ?aO ?aB ?aS ?aL ?_; (case aP => exact rfl); (case aB => exact bw); (case aF => exact (fun k_ hk => Kd.fresh' (Kd.R_lt (ra (h := HO_8.out))) k_ hk)); (case aO => exact (ra (h := HO_10.out))); (case aS => exact (below_size bw)); (case aL => have := LMc31.out; omega); intro v186 w33 ho hb hg hat; rw [← Ny185.out] at ho; have HO187 := Aside0.mk (ho); replace HO_8 := Aside0.mk (Kd.R_after (ok := (fun _ => True)) (by refine ra (h := ?_); exact Kd.R_mono HO_8.out (fun _ hk => ⟨trivial, hk⟩)) hg hat); replace HB := Aside0.mk (hb); clear HO_10; clear ho hb hg hat)))
                                        go_roundg kj16
                                        case measure => have := HK1.out; have := HK2.out; have := HJ14.out; have := HJ16.out; omega
                                        case rel => exact ⟨(y185), (wrap64 (x12_2 + 1)), (by first | rfl | (simp; done) | (simp [*]; done)), H', ⟨by have := HK1.out; have := HK2.out; have := HJ14.out; have := HJ16.out; omega⟩, ⟨by refine ra (h := ?_); exact Kd.R_mono HO_8.out (fun _ hk => hk.2)⟩, ⟨by refine ra (h := ?_); exact HO187.out⟩, ⟨bw⟩⟩
                                      · rw [if_neg c31] at H
                                        exact absurd H (by simp)
                                    · rw [if_neg c30] at H
                                      have c30b0 : ((decide ((rd t175 x11_1) < (rd t175 x13_14))) == t184) = false := by simpa using c30
                                      (try (have c30b1 : decide ((decide ((rd t175 x11_1) < (rd t175 x13_14))) = t184) = false := by simpa using c30))
                                      (try (have c30b2 : ((decide ((rd t175 x11_1) < (rd t175 x13_14))) == t184) = false := by simpa using c30))
                                      (try (have c30b3 : ¬ ((decide ((rd t175 x11_1) < (rd t175 x13_14))) = t184) := by simpa using c30))
                                      clear c30
                                      by_cases c34 : x10_2.length < 17592186044416
                                      · rw [if_pos c34] at H
                                        have LMc34 := Aside0.mk c34
                                        clear c34
                                        obtain ⟨y188, hy188⟩ : ∃ y_ : List Int, y_ = (x10_2 ++ [2]) := ⟨_, rfl⟩
                                        replace H : (spec_StackKinds.l1 kj16 a0 a1 t175 y188 x11_1 (wrap64 (x12_2 + 1))) = some (r1, r2) := by first | (rw [hy188]; with_reducible exact H) | (have H2_ := (Option.bind_some _ _).symm.trans H; rw [hy188]; with_reducible exact H2_) | (have H2_ := (Option.bind_some _ _).symm.trans H; with_reducible exact H2_) | with_reducible exact H | (rw [hy188]; exact H) | exact H
                                        have Ny188 := Aside0.mk hy188
                                        clear hy188
                                        have H' := Aside0.mk H
                                        clear H
                                        obtain ⟨Ao35, co35, eo35⟩ := Kd.R_slice HO_8.out
                                        subst eo35
                                        have p182 : 0 ≤ (x11_1 : Int) := od
                                        have q182 : x11_1 < (t175.length : Int) := od
                                        obtain ⟨ad182, e182, hx182_0⟩ := Kd.at_int (Kd.R_reads' HO_8.out).2.2 x11_1 p182 q182
                                        cases e182
                                        replace p182 := eq_true p182
                                        replace q182 := eq_true q182
                                        have p183 : 0 ≤ (x13_14 : Int) := od
                                        have q183 : x13_14 < (t175.length : Int) := od
                                        obtain ⟨ad183, e183, hx183_0⟩ := Kd.at_int (Kd.R_reads' HO_8.out).2.2 x13_14 p183 q183
                                        obtain rfl : ad182 = ad183 := (by injection e183)
                                        replace p183 := eq_true p183
                                        replace q183 := eq_true q183
                                        go_wp2_with (first | (go_at_call 87; (with_reducible refine (spec_l26Front.calls a1 x11_1 t184 _ A29.out).mono ?_); rintro e w' ⟨rfl, ⟨nd, rfl⟩⟩; (try first | exact ⟨rfl, _, World.drewN_drewN _ _ _⟩ | exact ⟨rfl, _, Eq.trans (World.drewN_drewN _ _ _) (congrArg (World.drewN _) (Nat.add_assoc _ _ _))⟩)) | ((with_reducible refine gate_builtin (b := .append) (xs := #[.tmp 88, .tmp 90]) rfl ?_); at_builtin; refine Kd.R_append (Kd.int .i64) (w0 := w) w.heap.size rfl (.tmp 88) (.tmp 90) 24 2 (.int .i64 0) 8 rfl Try.underlying24 info2 rfl (by decide) (by omega) u10 x10_2 2 [.int .i64 2] (fun k_ => some k_ ≠ (.slice (some ad182) t175.length co35 : Value).ownBlock) (fun _ => False) rfl rfl ?aP (fun _ hk => hk.elim) ?aF ?aO ?aB ?aS ?aL ?_; (case aP => exact rfl); (case aB => exact bw); (case aF => exact (fun k_ hk => Kd.fresh' (Kd.R_lt (ra (h := HO_8.out))) k_ hk)); (case aO => exact (ra (h := HO_10.out))); (case aS => exact (below_size bw)); (case aL => have := LMc34.out; omega); intro v189 w36 ho hb hg hat; rw [← Ny188.out] at ho; have HO190 := Aside0.mk (ho); replace HO_8 := Aside0.mk (Kd.R_after (ok := (fun _ => True)) (by refine ra (h := ?_); exact Kd.R_mono HO_8.out (fun _ hk => ⟨trivial, hk⟩)) hg hat); replace HB := Aside0.mk (hb); clear HO_10; clear ho hb hg hat))
                                        repeat (go_quiet (first | (go_at_call 87; (with_reducible refine (spec_l26Front.calls a1 x11_1 t184 _ A29.out).mono ?_); rintro e w' ⟨rfl, ⟨nd, rfl⟩⟩; (try first | exact ⟨rfl, _, World.drewN_drewN _ _ _⟩ | exact ⟨rfl, _, Eq.trans (World.drewN_drewN _ _ _) (congrArg (World.drewN _) (Nat.add_assoc _ _ _))⟩)) | ((with_reducible refine gate_builtin (b := .append) (xs := #[.tmp 88, .tmp 90]) rfl ?_); at_builtin; refine Kd.R_append (Kd.int .i64) (w0 := w) w.heap.size rfl (.tmp 88) (.tmp 90) 24 2 (.int .i64 0) 8 rfl Try.underlying24 info2 rfl (by decide) (by omega) u10 x10_2 2 [.int .i64 2] (fun k_ => some k_ ≠ (.slice (some ad182) t175.length co35 : Value).ownBlock) (fun _ => False) rfl rfl ?aP (fun _ hk => hk.elim) ?aF ?aO ?aB ?aS ?aL ?_; (case aP => exact rfl); (case aB => exact bw); (case aF => exact (fun k_ hk => Kd.fresh' (Kd.R_lt (ra (h := HO_8.out))) k_ hk)); (case aO => exact (ra (h := HO_10.out))); (case aS => exact (below_size bw)); (case aL => have := LMc34.out; omega); intro v189 w36 ho hb hg hat; rw [← Ny188.out] at ho; have HO190 := Aside0.mk (ho); replace HO_8 := Aside0.mk (Kd.R_after (ok := (fun _ => True)) (by refine ra (h := ?_); exact Kd.R_mono HO_8.out (fun _ hk => ⟨trivial, hk⟩)) hg hat); replace HB := Aside0.mk (hb); clear HO_10; clear ho hb hg hat)); try go_wp2_with (first | (go_at_call 87; (with_reducible refine (spec_l26Front.calls a1 x11_1 t184 _ A29.out).mono ?_); rintro e w' ⟨rfl, ⟨nd, rfl⟩⟩; (try first | exact ⟨rfl, _, World.drewN_drewN _ _ _⟩ | exact ⟨rfl, _, Eq.trans (World.drewN_drewN _ _ _) (congrArg (World.drewN _) (Nat.add_assoc _ _ _))⟩)) | ((with_reducible refine gate_builtin (b := .append) (xs := #[.tmp 88, .tmp 90]) rfl ?_); at_builtin; refine Kd.R_append (Kd.int .i64) (w0 := w) w.heap.size rfl (.tmp 88) (.tmp 90) 24 2 (.int .i64 0) 8 rfl Try.underlying24 info2 rfl (by decide) (by omega) u10 x10_2 2 [.int .i64 2] (fun k_ => some k_ ≠ (.slice (some ad182) t175.length co35 : Value).ownBlock) (fun _ => False) rfl rfl ?aP (fun _ hk => hk.elim) ?aF ?aO ?aB ?aS ?aL ?_; (case aP => exact rfl); (case aB => exact bw); (case aF => exact (fun k_ hk => Kd.fresh' (Kd.R_lt (ra (h := HO_8.out))) k_ hk)); (case aO => exact (ra (h := HO_10.out))); (case aS => exact (below_size bw)); (case aL => have := LMc34.out; omega); intro v189 w36 ho hb hg hat; rw [← Ny188.out] at ho; have HO190 := Aside0.mk (ho); replace HO_8 := Aside0.mk (Kd.R_after (ok := (fun _ => True)) (by refine ra (h := ?_); exact Kd.R_mono HO_8.out (fun _ hk => ⟨trivial, hk⟩)) hg hat); replace HB := Aside0.mk (hb); clear HO_10; clear ho hb hg hat)))
                                        go_roundg kj16
                                        case measure => have := HK1.out; have := HK2.out; have := HJ14.out; have := HJ16.out; omega
                                        case rel => exact ⟨(y188), (wrap64 (x12_2 + 1)), (by first | rfl | (simp; done) | (simp [*]; done)), H', ⟨by have := HK1.out; have := HK2.out; have := HJ14.out; have := HJ16.out; omega⟩, ⟨by refine ra (h := ?_); exact Kd.R_mono HO_8.out (fun _ hk => hk.2)⟩, ⟨by refine ra (h := ?_); exact HO190.out⟩, ⟨bw⟩⟩
                                      · rw [if_neg c34] at H
                                        exact absurd H (by simp)
                                  · rw [if_neg c28] at H
                                    exact absurd H (by simp)
                                · rw [if_neg c27] at H
                                  exact absurd H (by simp)
                              · rw [if_neg c26] at H
                                exact absurd H (by simp)
                            · rw [if_neg c25] at H
                              exact absurd H (by simp)
                · rw [if_neg c14] at H
                  have c14b0 : decide (x12_2 < 2) = false := decide_eq_false c14
                  clear c14
                  have H' := Aside0.mk H
                  clear H
                  go_wp2
                  repeat (go_quiet (fail); try go_wp2)
                  go_roundg k2
                  case measure => have := HK1.out; have := HK2.out; omega
                  case rel => exact ⟨(x10_2), (wrap64 (x11_1 + 1)), (by first | rfl | (simp; done) | (simp [*]; done)), H', ⟨by have := HK1.out; have := HK2.out; omega⟩, ⟨by refine ra (h := ?_); exact HO_8.out⟩, ⟨by refine ra (h := ?_); exact HO_10.out⟩, ⟨bw⟩⟩
          · rw [if_neg c13] at H
            have c13b0 : decide (x11_1 < (wrap64 (a0 * a1))) = false := decide_eq_false c13
            clear c13
            simp only [Option.some.injEq, Prod.mk.injEq] at H
            obtain ⟨rfl, rfl⟩ := H
            go_wp2
            repeat (go_quiet (fail); try go_wp2)
            go_ret2
            exact ⟨_, er, by refine ra (h := ?_); exact Kd.R_mono HO_10.out (fun _ hk => trivial), bw⟩
    · replace c7 := Bool.eq_false_iff.mpr c7
      subst c7
      rw [if_neg nf] at H
      obtain ⟨y172, hy172⟩ : ∃ y_ : List Int, y_ = (([] : List Int)) := ⟨_, rfl⟩
      replace H : (some (y172, 12)) = some (r1, r2) := by first | (rw [hy172]; with_reducible exact H) | (have H2_ := (Option.bind_some _ _).symm.trans H; rw [hy172]; with_reducible exact H2_) | (have H2_ := (Option.bind_some _ _).symm.trans H; with_reducible exact H2_) | with_reducible exact H | (rw [hy172]; exact H) | exact H
      have Ny172 := Aside0.mk hy172
      clear hy172
      simp only [Option.some.injEq, Prod.mk.injEq] at H
      obtain ⟨rfl, rfl⟩ := H
      go_enter Try.func36, Try.ntmps36
      go_wp2_with (first | (go_at_call 73; (with_reducible refine (spec_l26Ok.calls a0 a1 true _ A4.out).mono ?_); rintro e w' ⟨rfl, ⟨nd, rfl⟩⟩; (try first | exact ⟨rfl, _, World.drewN_drewN _ _ _⟩ | exact ⟨rfl, _, Eq.trans (World.drewN_drewN _ _ _) (congrArg (World.drewN _) (Nat.add_assoc _ _ _))⟩)) | (go_at_call 74; (with_reducible refine (spec_l26Stack.calls k a0 a1 _ _ l2 false _ ?side1 ?side2 A6.out).mono ?_); (case side1 => repeat (first | exact HR2.out | (with_reducible refine Kd.C_alloc ?_ _) | (with_reducible refine Kd.C_drewN ?_ _) | (with_reducible refine Kd.C_drew ?_))); (case side2 => exact HC2.out); rintro e w37 ⟨rfl, hb⟩; replace HB := bs hb; (try clear hb); (try clear hb2); (try clear hk); (try clear hi)) | ((with_reducible refine gate_dst (N := 25) rfl ?_); refine Kd.R_lit (Kd.int .i64) _ 2 ?hg (N := 25) ?hd (xs := ([] : List Int)) (inner := []) (ok := fun _ => True) (okp := fun _ => True) ?hr ?hp (fun _ hk => hk) trivial (Below.refl _ _) (Nat.le_refl _) (by simp) ?_; (case hd => rfl); (case hg => rfl); (case hr => first | (go_simp; done) | (go_simp; rfl)); (case hp => exact (Reps.none _ _)); intro v173 w38 ho39 hb hg_ hnew_; clear hg_ hnew_; (first | rw [← Ny172.out] at ho39 | (simp only [Int.reduceToNat] at ho39; rw [← Ny172.out] at ho39)); have HO174 := Aside0.mk (Kd.R_lower ho39 (below_size bw)); replace HB := bs hb; clear hb ho39))
      repeat (go_quiet (first | (go_at_call 73; (with_reducible refine (spec_l26Ok.calls a0 a1 true _ A4.out).mono ?_); rintro e w' ⟨rfl, ⟨nd, rfl⟩⟩; (try first | exact ⟨rfl, _, World.drewN_drewN _ _ _⟩ | exact ⟨rfl, _, Eq.trans (World.drewN_drewN _ _ _) (congrArg (World.drewN _) (Nat.add_assoc _ _ _))⟩)) | (go_at_call 74; (with_reducible refine (spec_l26Stack.calls k a0 a1 _ _ l2 false _ ?side1 ?side2 A6.out).mono ?_); (case side1 => repeat (first | exact HR2.out | (with_reducible refine Kd.C_alloc ?_ _) | (with_reducible refine Kd.C_drewN ?_ _) | (with_reducible refine Kd.C_drew ?_))); (case side2 => exact HC2.out); rintro e w37 ⟨rfl, hb⟩; replace HB := bs hb; (try clear hb); (try clear hb2); (try clear hk); (try clear hi)) | ((with_reducible refine gate_dst (N := 25) rfl ?_); refine Kd.R_lit (Kd.int .i64) _ 2 ?hg (N := 25) ?hd (xs := ([] : List Int)) (inner := []) (ok := fun _ => True) (okp := fun _ => True) ?hr ?hp (fun _ hk => hk) trivial (Below.refl _ _) (Nat.le_refl _) (by simp) ?_; (case hd => rfl); (case hg => rfl); (case hr => first | (go_simp; done) | (go_simp; rfl)); (case hp => exact (Reps.none _ _)); intro v173 w38 ho39 hb hg_ hnew_; clear hg_ hnew_; (first | rw [← Ny172.out] at ho39 | (simp only [Int.reduceToNat] at ho39; rw [← Ny172.out] at ho39)); have HO174 := Aside0.mk (Kd.R_lower ho39 (below_size bw)); replace HB := bs hb; clear hb ho39)); try go_wp2_with (first | (go_at_call 73; (with_reducible refine (spec_l26Ok.calls a0 a1 true _ A4.out).mono ?_); rintro e w' ⟨rfl, ⟨nd, rfl⟩⟩; (try first | exact ⟨rfl, _, World.drewN_drewN _ _ _⟩ | exact ⟨rfl, _, Eq.trans (World.drewN_drewN _ _ _) (congrArg (World.drewN _) (Nat.add_assoc _ _ _))⟩)) | (go_at_call 74; (with_reducible refine (spec_l26Stack.calls k a0 a1 _ _ l2 false _ ?side1 ?side2 A6.out).mono ?_); (case side1 => repeat (first | exact HR2.out | (with_reducible refine Kd.C_alloc ?_ _) | (with_reducible refine Kd.C_drewN ?_ _) | (with_reducible refine Kd.C_drew ?_))); (case side2 => exact HC2.out); rintro e w37 ⟨rfl, hb⟩; replace HB := bs hb; (try clear hb); (try clear hb2); (try clear hk); (try clear hi)) | ((with_reducible refine gate_dst (N := 25) rfl ?_); refine Kd.R_lit (Kd.int .i64) _ 2 ?hg (N := 25) ?hd (xs := ([] : List Int)) (inner := []) (ok := fun _ => True) (okp := fun _ => True) ?hr ?hp (fun _ hk => hk) trivial (Below.refl _ _) (Nat.le_refl _) (by simp) ?_; (case hd => rfl); (case hg => rfl); (case hr => first | (go_simp; done) | (go_simp; rfl)); (case hp => exact (Reps.none _ _)); intro v173 w38 ho39 hb hg_ hnew_; clear hg_ hnew_; (first | rw [← Ny172.out] at ho39 | (simp only [Int.reduceToNat] at ho39; rw [← Ny172.out] at ho39)); have HO174 := Aside0.mk (Kd.R_lower ho39 (below_size bw)); replace HB := bs hb; clear hb ho39)))
      go_ret2
      exact ⟨_, er, by refine ra (h := ?_); exact HO174.out, bw⟩
  · replace c5 := Bool.eq_false_iff.mpr c5
    subst c5
    rw [if_neg nf] at H
    obtain ⟨y168, hy168⟩ : ∃ y_ : List Int, y_ = (([] : List Int)) := ⟨_, rfl⟩
    replace H : (some (y168, 1)) = some (r1, r2) := by first | (rw [hy168]; with_reducible exact H) | (have H2_ := (Option.bind_some _ _).symm.trans H; rw [hy168]; with_reducible exact H2_) | (have H2_ := (Option.bind_some _ _).symm.trans H; with_reducible exact H2_) | with_reducible exact H | (rw [hy168]; exact H) | exact H
    have Ny168 := Aside0.mk hy168
    clear hy168
    simp only [Option.some.injEq, Prod.mk.injEq] at H
    obtain ⟨rfl, rfl⟩ := H
    go_enter Try.func36, Try.ntmps36
    go_wp2_with (first | (go_at_call 73; (with_reducible refine (spec_l26Ok.calls a0 a1 false _ A4.out).mono ?_); rintro e w' ⟨rfl, ⟨nd, rfl⟩⟩; (try first | exact ⟨rfl, _, World.drewN_drewN _ _ _⟩ | exact ⟨rfl, _, Eq.trans (World.drewN_drewN _ _ _) (congrArg (World.drewN _) (Nat.add_assoc _ _ _))⟩)) | ((with_reducible refine gate_dst (N := 19) rfl ?_); refine Kd.R_lit (Kd.int .i64) _ 2 ?hg (N := 19) ?hd (xs := ([] : List Int)) (inner := []) (ok := fun _ => True) (okp := fun _ => True) ?hr ?hp (fun _ hk => hk) trivial (Below.refl _ _) (Nat.le_refl _) (by simp) ?_; (case hd => rfl); (case hg => rfl); (case hr => first | (go_simp; done) | (go_simp; rfl)); (case hp => exact (Reps.none _ _)); intro v169 w40 ho41 hb hg_ hnew_; clear hg_ hnew_; (first | rw [← Ny168.out] at ho41 | (simp only [Int.reduceToNat] at ho41; rw [← Ny168.out] at ho41)); have HO170 := Aside0.mk (Kd.R_lower ho41 (below_size bw)); replace HB := bs hb; clear hb ho41))
    repeat (go_quiet (first | (go_at_call 73; (with_reducible refine (spec_l26Ok.calls a0 a1 false _ A4.out).mono ?_); rintro e w' ⟨rfl, ⟨nd, rfl⟩⟩; (try first | exact ⟨rfl, _, World.drewN_drewN _ _ _⟩ | exact ⟨rfl, _, Eq.trans (World.drewN_drewN _ _ _) (congrArg (World.drewN _) (Nat.add_assoc _ _ _))⟩)) | ((with_reducible refine gate_dst (N := 19) rfl ?_); refine Kd.R_lit (Kd.int .i64) _ 2 ?hg (N := 19) ?hd (xs := ([] : List Int)) (inner := []) (ok := fun _ => True) (okp := fun _ => True) ?hr ?hp (fun _ hk => hk) trivial (Below.refl _ _) (Nat.le_refl _) (by simp) ?_; (case hd => rfl); (case hg => rfl); (case hr => first | (go_simp; done) | (go_simp; rfl)); (case hp => exact (Reps.none _ _)); intro v169 w40 ho41 hb hg_ hnew_; clear hg_ hnew_; (first | rw [← Ny168.out] at ho41 | (simp only [Int.reduceToNat] at ho41; rw [← Ny168.out] at ho41)); have HO170 := Aside0.mk (Kd.R_lower ho41 (below_size bw)); replace HB := bs hb; clear hb ho41)); try go_wp2_with (first | (go_at_call 73; (with_reducible refine (spec_l26Ok.calls a0 a1 false _ A4.out).mono ?_); rintro e w' ⟨rfl, ⟨nd, rfl⟩⟩; (try first | exact ⟨rfl, _, World.drewN_drewN _ _ _⟩ | exact ⟨rfl, _, Eq.trans (World.drewN_drewN _ _ _) (congrArg (World.drewN _) (Nat.add_assoc _ _ _))⟩)) | ((with_reducible refine gate_dst (N := 19) rfl ?_); refine Kd.R_lit (Kd.int .i64) _ 2 ?hg (N := 19) ?hd (xs := ([] : List Int)) (inner := []) (ok := fun _ => True) (okp := fun _ => True) ?hr ?hp (fun _ hk => hk) trivial (Below.refl _ _) (Nat.le_refl _) (by simp) ?_; (case hd => rfl); (case hg => rfl); (case hr => first | (go_simp; done) | (go_simp; rfl)); (case hp => exact (Reps.none _ _)); intro v169 w40 ho41 hb hg_ hnew_; clear hg_ hnew_; (first | rw [← Ny168.out] at ho41 | (simp only [Int.reduceToNat] at ho41; rw [← Ny168.out] at ho41)); have HO170 := Aside0.mk (Kd.R_lower ho41 (below_size bw)); replace HB := bs hb; clear hb ho41)))
    go_ret2
    exact ⟨_, er, by refine ra (h := ?_); exact HO170.out, bw⟩

/-! ### impl_within: function 53 -/
def impl_within.f (a0 : Int) (a1 : Int) (a2 : Int) : Option (Bool) := if a0 ≥ a1 then (some (decide (a0 ≤ a2))) else (some false)
set_option maxHeartbeats 8000000 in
set_option maxRecDepth 100000 in
theorem impl_within.calls (a0 : Int) (a1 : Int) (a2 : Int) (r : Bool) (w : World) (h : impl_within.f a0 a1 a2 = some r) :
    Calls Try.prog 53 #[.int .i64 a0, .int .i64 a1, .int .i64 a2] w fun e w' => e = .returned (.bool r) ∧ Drawn0 w w' := by
  have H : (if a0 ≥ a1 then (some (decide (a0 ≤ a2))) else (some false)) = some r := h
  clear h
  by_cases c4 : a0 ≥ a1
  · rw [if_pos c4] at H
    have c4b0 : decide (a1 ≤ a0) = true := decide_eq_true c4
    clear c4
    obtain rfl := Option.some.inj H
    go_enter Try.func53, Try.ntmps53
    go_wp2
    go_ret
    exact ⟨by first | rfl | (simp; done) | (simp [*]; done), by repeat (first | exact Drawn0.refl _ | apply Drawn0.step)⟩
  · rw [if_neg c4] at H
    have c4b0 : decide (a1 ≤ a0) = false := decide_eq_false c4
    clear c4
    obtain rfl := Option.some.inj H
    go_enter Try.func53, Try.ntmps53
    go_wp2
    go_ret
    exact ⟨by first | rfl | (simp; done) | (simp [*]; done), by repeat (first | exact Drawn0.refl _ | apply Drawn0.step)⟩

/-! ### impl_ValidMap: function 75 -/
def impl_ValidMap.f (a0 : Int) (a1 : Int) : Option (Bool) := (impl_within.f a0 1 12).bind fun t191 => (if t191 = true then ((impl_within.f a1 1 12).bind fun t192 => (if t192 = true then (some (decide ((wrap64 (a0 * a1)) ≤ 12))) else (some false))) else (some false))
set_option maxHeartbeats 8000000 in
set_option maxRecDepth 100000 in
theorem impl_ValidMap.calls (a0 : Int) (a1 : Int) (r : Bool) (w : World) (h : impl_ValidMap.f a0 a1 = some r) :
    Calls Try.prog 75 #[.int .i64 a0, .int .i64 a1] w fun e w' => e = .returned (.bool r) ∧ Drawn0 w w' := by
  have H : ((impl_within.f a0 1 12).bind fun t191 => (if t191 = true then ((impl_within.f a1 1 12).bind fun t192 => (if t192 = true then (some (decide ((wrap64 (a0 * a1)) ≤ 12))) else (some false))) else (some false))) = some r := h
  clear h
  replace H := Option.bind_eq_some_iff.mp H
  obtain ⟨t191, A30, H⟩ := H
  replace H : (if t191 = true then ((impl_within.f a1 1 12).bind fun t192 => (if t192 = true then (some (decide ((wrap64 (a0 * a1)) ≤ 12))) else (some false))) else (some false)) = some r := H
  have A3 := Aside0.mk A30
  clear A30
  by_cases c4 : t191 = true
  · subst c4
    rw [if_pos rfl] at H
    replace H := Option.bind_eq_some_iff.mp H
    obtain ⟨t192, A50, H⟩ := H
    replace H : (if t192 = true then (some (decide ((wrap64 (a0 * a1)) ≤ 12))) else (some false)) = some r := H
    have A5 := Aside0.mk A50
    clear A50
    by_cases c6 : t192 = true
    · subst c6
      rw [if_pos rfl] at H
      obtain rfl := Option.some.inj H
      go_enter Try.func75, Try.ntmps75
      go_wp2_with (first | ((with_reducible refine gate_callee (f := 53) rfl ?_); refine gl (some 6) Try.func53 #[.int .i64 a0, .int .i64 1, .int .i64 12] ?_; (with_reducible refine (impl_within.calls a0 1 12 true _ A3.out).mono ?_); rintro e w' ⟨rfl, ⟨nd, rfl⟩⟩; refine ⟨_, rfl, ?_⟩) | (go_at_call 53; (with_reducible refine (impl_within.calls a1 1 12 true _ A5.out).mono ?_); rintro e w' ⟨rfl, ⟨nd, rfl⟩⟩))
      go_ret
      exact ⟨by first | rfl | (simp; done) | (simp [*]; done), by repeat (first | exact Drawn0.refl _ | apply Drawn0.step)⟩
    · replace c6 := Bool.eq_false_iff.mpr c6
      subst c6
      rw [if_neg nf] at H
      obtain rfl := Option.some.inj H
      go_enter Try.func75, Try.ntmps75
      go_wp2_with (first | ((with_reducible refine gate_callee (f := 53) rfl ?_); refine gl (some 6) Try.func53 #[.int .i64 a0, .int .i64 1, .int .i64 12] ?_; (with_reducible refine (impl_within.calls a0 1 12 true _ A3.out).mono ?_); rintro e w' ⟨rfl, ⟨nd, rfl⟩⟩; refine ⟨_, rfl, ?_⟩) | (go_at_call 53; (with_reducible refine (impl_within.calls a1 1 12 false _ A5.out).mono ?_); rintro e w' ⟨rfl, ⟨nd, rfl⟩⟩))
      go_ret
      exact ⟨by first | rfl | (simp; done) | (simp [*]; done), by repeat (first | exact Drawn0.refl _ | apply Drawn0.step)⟩
  · replace c4 := Bool.eq_false_iff.mpr c4
    subst c4
    rw [if_neg nf] at H
    obtain rfl := Option.some.inj H
    go_enter Try.func75, Try.ntmps75
    go_wp2_with (first | ((with_reducible refine gate_callee (f := 53) rfl ?_); refine gl (some 6) Try.func53 #[.int .i64 a0, .int .i64 1, .int .i64 12] ?_; (with_reducible refine (impl_within.calls a0 1 12 false _ A3.out).mono ?_); rintro e w' ⟨rfl, ⟨nd, rfl⟩⟩; refine ⟨_, rfl, ?_⟩))
    go_ret
    exact ⟨by first | rfl | (simp; done) | (simp [*]; done), by repeat (first | exact Drawn0.refl _ | apply Drawn0.step)⟩

end Go.Proofs.Yteadienaeapaeaa.PK
