-- Made by a program of this session (myprint.py) out of the translation.
import Derived.Test.YteadienaeapaeaaDoorZnoPYx0
import Derived.Test.YteadienaeapaeaaDoorZnoPYx1
import Derived.Test.YteadienaeapaeaaDoorZnoPYx2
import Derived.Test.YteadienaeapaeaaDoorZnoPYx10
import Derived.Test.YteadienaeapaeaaDoorZnoShort
namespace Go.Proofs.YteadienaeapaeaaDoor.PY
open Go.Proofs.YteadienaeapaeaaDoor.Short
open Go.Proofs.YteadienaeapaeaaDoor.Dyn
open Go.RowKit Go.Proofs.YteadienaeapaeaaDoorW.PrintWords Go.Proofs.YteadienaeapaeaaDoorW.PrintLast Go.Proofs.YteadienaeapaeaaDoorW.PrintMore
attribute [local go_sem] max2_int min2_int max_two min_two max_three min_three max_four min_four   -- for this text's walks alone
set_option linter.unusedVariables false
set_option linter.unusedSimpArgs false

attribute [local go_sem high] eqA32 eqA34
/-! ### spec_l27Along: function 87 -/
def spec_l27Along.j0 : Nat → Bool → Int → ByteArray → Int → Int → Int → Int → Int → Int → Bool → Option (Bool)
  | 0, _, _, _, _, _, _, _, _, _, _ => none
  | k + 1, x10, x182000, x182001, x182002, x182003, x182004, x182005, x182006, x182007, x182008 => if x10 = true then (some false) else (if x182001.toList = ([] : List UInt8) then ((spec_l02Line.f k x182002 x182003 x182004 x182005).bind fun t182 => (some t182)) else ((spec_IsName.f k x182001).bind fun t183 => (if t183 = true then (some (x182002 == 0 && ((x182003 == 0 && (x182004 == 0 && (x182005 == 0)))))) else (some false))))
def spec_l27Along.f (k : Nat) (a0_0 : Int) (a0_1 : ByteArray) (a0_2 : Int) (a0_3 : Int) (a0_4 : Int) (a0_5 : Int) (a0_6 : Int) (a0_7 : Int) (a0_8 : Bool) : Option (Bool) := if a0_6 = 1 then (spec_l27Along.j0 k false a0_0 a0_1 a0_2 a0_3 a0_4 a0_5 a0_6 a0_7 a0_8) else (spec_l27Along.j0 k (a0_6 != (-1)) a0_0 a0_1 a0_2 a0_3 a0_4 a0_5 a0_6 a0_7 a0_8)
theorem spec_l27Along.mono_l : ∀ k, (∀ y0 y1 y2 y3 y4 y5 y6 y7 y8 y9, LeO (spec_l27Along.j0 k y0 y1 y2 y3 y4 y5 y6 y7 y8 y9) (spec_l27Along.j0 (k + 1) y0 y1 y2 y3 y4 y5 y6 y7 y8 y9))
  | 0 => fun _ _ _ _ _ _ _ _ _ _ r h => by simp [spec_l27Along.j0] at h
  | k + 1 => by
    have ih0 := spec_l27Along.mono_l k
    · intro y0 y1 y2 y3 y4 y5 y6 y7 y8 y9
      unfold spec_l27Along.j0
      repeat' first
      | (with_reducible exact ih0 _ _ _ _ _ _ _ _ _ _)
      | (with_reducible exact spec_IsName.mono _ _)
      | (with_reducible exact spec_l02Line.mono _ _ _ _ _)
      | (with_reducible exact LeO.refl _)
      | (with_reducible exact LeO.none _)
      | (with_reducible refine LeO.ite ?_ ?_)
      | (with_reducible refine LeO.bind ?_ (fun _ => ?_))
      | exact ih0 _ _ _ _ _ _ _ _ _ _
      | exact spec_IsName.mono _ _
      | exact spec_l02Line.mono _ _ _ _ _
      | exact LeO.none _
      | refine LeO.ite ?_ ?_
      | refine LeO.bind ?_ (fun _ => ?_)
theorem spec_l27Along.mono : ∀ a0 a1 a2 a3 a4 a5 a6 a7 a8 k, LeO (spec_l27Along.f k a0 a1 a2 a3 a4 a5 a6 a7 a8) (spec_l27Along.f (k + 1) a0 a1 a2 a3 a4 a5 a6 a7 a8) := by
  intro a0 a1 a2 a3 a4 a5 a6 a7 a8 k
  have ih0 := spec_l27Along.mono_l k
  unfold spec_l27Along.f
  repeat' first
      | (with_reducible exact ih0 _ _ _ _ _ _ _ _ _ _)
      | (with_reducible exact spec_IsName.mono _ _)
      | (with_reducible exact spec_l02Line.mono _ _ _ _ _)
      | (with_reducible exact LeO.refl _)
      | (with_reducible exact LeO.none _)
      | (with_reducible refine LeO.ite ?_ ?_)
      | (with_reducible refine LeO.bind ?_ (fun _ => ?_))
      | exact ih0 _ _ _ _ _ _ _ _ _ _
      | exact spec_IsName.mono _ _
      | exact spec_l02Line.mono _ _ _ _ _
      | exact LeO.none _
      | refine LeO.ite ?_ ?_
      | refine LeO.bind ?_ (fun _ => ?_)
set_option maxHeartbeats 8000000 in
set_option maxRecDepth 100000 in
theorem spec_l27Along.calls (k : Nat) (a0_0 : Int) (a0_1 : ByteArray) (a0_2 : Int) (a0_3 : Int) (a0_4 : Int) (a0_5 : Int) (a0_6 : Int) (a0_7 : Int) (a0_8 : Bool) (r : Bool) (w : World) (h : spec_l27Along.f k a0_0 a0_1 a0_2 a0_3 a0_4 a0_5 a0_6 a0_7 a0_8 = some r) :
    Calls Tryd.prog 87 #[.agg #[.int .i64 a0_0, .string a0_1, .int .i64 a0_2, .int .i64 a0_3, .int .i64 a0_4, .int .i64 a0_5, .int .i64 a0_6, .int .i64 a0_7, .bool a0_8]] w fun e w' => e = .returned (.bool r) ∧ Below w.heap.size w w' := by
  have hu34 := Tryd.underlying34
  have hu32 := Tryd.underlying32
  have HB := Aside0.mk (Below.refl w.heap.size w)
  have H : (if a0_6 = 1 then (spec_l27Along.j0 k false a0_0 a0_1 a0_2 a0_3 a0_4 a0_5 a0_6 a0_7 a0_8) else (spec_l27Along.j0 k (a0_6 != (-1)) a0_0 a0_1 a0_2 a0_3 a0_4 a0_5 a0_6 a0_7 a0_8)) = some r := h
  clear h
  have HC2 := Aside0.mk H
  clear H
  go_enter Tryd.func87, Tryd.ntmps87
  go_upto_region 1 with (first | ((with_reducible refine gate_dst (N := 1) rfl ?_); refine bx #[.int .i64 a0_0, .string a0_1, .int .i64 a0_2, .int .i64 a0_3, .int .i64 a0_4, .int .i64 a0_5, .int .i64 a0_6, .int .i64 a0_7, .bool a0_8] 34 ?_; intro gb181 hg w3 hbox hb; have BK181 := Aside0.mk hbox; have GW181 := bg hg; have GE181 := bg hg; replace HB := bs hb; clear hb hbox hg))
  (try simp only [Act.put, List.setIfInBounds_toArray, List.set_cons_zero, List.set_cons_succ])
  go_cut [10] (fun v10 wc => ∃ (kq : Nat) (x10_1 : Bool), v10 = .bool x10_1 ∧ Aside0 (spec_l27Along.j0 kq x10_1 a0_0 a0_1 a0_2 a0_3 a0_4 a0_5 a0_6 a0_7 a0_8 = some r) ∧ Aside0 (kq ≤ k) ∧ Aside0 (wc.heap[gb181]? = some (.cells #[.int .i64 a0_0, .string a0_1, .int .i64 a0_2, .int .i64 a0_3, .int .i64 a0_4, .int .i64 a0_5, .int .i64 a0_6, .int .i64 a0_7, .bool a0_8] 34 (0, 0))) ∧ Aside0 (Below w.heap.size w wc))
  case first =>
    have H := HC2.out
    clear HC2
    by_cases c4 : a0_6 = 1
    · rw [if_pos c4] at H
      have c4b0 : (a0_6 == 1) = true := beq_iff_eq.mpr c4
      have c4b1 : (a0_6 != 1) = false := bne_eq_false_iff_eq.mpr c4
      clear c4
      (first | rw [c4b0] | (simp only [i64_w, i32_w]; rw [c4b0]) | skip)
      have H' := Aside0.mk H
      clear H
      obtain ⟨z5_0, z5_1, z5_2, z5_3, z5_4, z5_5, z5_6, z5_7, z5_8, y5_0, y5_1, y5_2, y5_3, y5_4, y5_5, y5_6, y5_7, y5_8⟩ := bq9 BK181
      go_wp2
      go_meet
      case rel => exact ⟨_, (false), (by first | rfl | (simp; done) | (simp [*]; done)), H', ⟨by first | omega | exact Nat.le_refl _⟩, ⟨by refine bk (h := ?_); exact BK181.out⟩, ⟨bw⟩⟩
    · rw [if_neg c4] at H
      have c4b0 : (a0_6 == 1) = false := beq_eq_false_iff_ne.mpr c4
      have c4b1 : (a0_6 != 1) = true := bne_iff_ne.mpr c4
      (first | rw [c4b0] | (simp only [i64_w, i32_w]; rw [c4b0]) | skip)
      have H' := Aside0.mk H
      clear H
      obtain ⟨z6_0, z6_1, z6_2, z6_3, z6_4, z6_5, z6_6, z6_7, z6_8, y6_0, y6_1, y6_2, y6_3, y6_4, y6_5, y6_6, y6_7, y6_8⟩ := bq9 BK181
      go_wp2
      go_meet
      case rel => exact ⟨_, ((a0_6 != (-1))), (by first | rfl | (simp; done) | (simp [*]; done)), H', ⟨by first | omega | exact Nat.le_refl _⟩, ⟨by refine bk (h := ?_); exact BK181.out⟩, ⟨bw⟩⟩
  case rest =>
    clear HC2
    try clear p2
    try clear c4
    try clear c4b0
    try clear c4b1
    try clear z5_0 z5_1 z5_2 z5_3 z5_4 z5_5 z5_6 z5_7 z5_8 y5_0 y5_1 y5_2 y5_3 y5_4 y5_5 y5_6 y5_7 y5_8
    try clear z6_0 z6_1 z6_2 z6_3 z6_4 z6_5 z6_6 z6_7 z6_8 y6_0 y6_1 y6_2 y6_3 y6_4 y6_5 y6_6 y6_7 y6_8
    obtain ⟨kq, x10_1, rfl, HA, HJ1, BK181, HB⟩ := hcut
    cases kq with
    | zero => exact absurd HA.out (by simp [spec_l27Along.j0])
    | succ kj1 =>
      have H := HA.out
      clear HA
      simp only [spec_l27Along.j0] at H
      by_cases c7 : x10_1 = true
      · subst c7
        rw [if_pos rfl] at H
        obtain rfl := Option.some.inj H
        go_wp2
        go_ret
        exact ⟨er, bw⟩
      · replace c7 := Bool.eq_false_iff.mpr c7
        subst c7
        rw [if_neg nf] at H
        by_cases c8 : a0_1.toList = ([] : List UInt8)
        · rw [if_pos c8] at H
          have c8b0 : (a0_1.toList == ([] : List UInt8)) = true := beq_iff_eq.mpr c8
          have c8b1 : (a0_1.toList != ([] : List UInt8)) = false := bne_eq_false_iff_eq.mpr c8
          clear c8
          replace H := Option.bind_eq_some_iff.mp H
          obtain ⟨t182, A90, H⟩ := H
          replace H : (some t182) = some r := H
          have A9 := Aside0.mk A90
          clear A90
          obtain rfl := Option.some.inj H
          obtain ⟨z10_0, z10_1, z10_2, z10_3, z10_4, z10_5, z10_6, z10_7, z10_8, y10_0, y10_1, y10_2, y10_3, y10_4, y10_5, y10_6, y10_7, y10_8⟩ := bq9 BK181
          go_wp2_with (first | ((with_reducible refine gate_callee (f := 90) rfl ?_); refine gl (some 16) Tryd.func90 #[.agg #[.int .i64 a0_2, .int .i64 a0_3, .int .i64 a0_4, .int .i64 a0_5]] ?_; (with_reducible refine (spec_l02Line.calls kj1 a0_2 a0_3 a0_4 a0_5 t182 _ A9.out).mono ?_); rintro e w11 ⟨rfl, hb⟩; refine ⟨_, rfl, ?_⟩; replace BK181 := bb BK181 hb; replace HB := bs hb; (try clear hb); (try clear hb2); (try clear hk); (try clear hi)))
          go_ret
          exact ⟨er, bw⟩
        · rw [if_neg c8] at H
          have c8b0 : (a0_1.toList == ([] : List UInt8)) = false := beq_eq_false_iff_ne.mpr c8
          have c8b1 : (a0_1.toList != ([] : List UInt8)) = true := bne_iff_ne.mpr c8
          replace H := Option.bind_eq_some_iff.mp H
          obtain ⟨t183, A120, H⟩ := H
          replace H : (if t183 = true then (some (a0_2 == 0 && ((a0_3 == 0 && (a0_4 == 0 && (a0_5 == 0)))))) else (some false)) = some r := H
          have A12 := Aside0.mk A120
          clear A120
          by_cases c13 : t183 = true
          · subst c13
            rw [if_pos rfl] at H
            obtain rfl := Option.some.inj H
            obtain ⟨z14_0, z14_1, z14_2, z14_3, z14_4, z14_5, z14_6, z14_7, z14_8, y14_0, y14_1, y14_2, y14_3, y14_4, y14_5, y14_6, y14_7, y14_8⟩ := bq9 BK181
            go_wp2_with (first | ((with_reducible refine gate_callee (f := 89) rfl ?_); refine gl (some 19) Tryd.func89 #[.string a0_1] ?_; (with_reducible refine (spec_IsName.calls kj1 a0_1 true _ A12.out).mono ?_); rintro e w' ⟨rfl, ⟨nd, rfl⟩⟩; refine ⟨_, rfl, ?_⟩))
            go_ret
            exact ⟨er, bw⟩
          · replace c13 := Bool.eq_false_iff.mpr c13
            subst c13
            rw [if_neg nf] at H
            obtain rfl := Option.some.inj H
            obtain ⟨z15_0, z15_1, z15_2, z15_3, z15_4, z15_5, z15_6, z15_7, z15_8, y15_0, y15_1, y15_2, y15_3, y15_4, y15_5, y15_6, y15_7, y15_8⟩ := bq9 BK181
            go_wp2_with (first | ((with_reducible refine gate_callee (f := 89) rfl ?_); refine gl (some 19) Tryd.func89 #[.string a0_1] ?_; (with_reducible refine (spec_IsName.calls kj1 a0_1 false _ A12.out).mono ?_); rintro e w' ⟨rfl, ⟨nd, rfl⟩⟩; refine ⟨_, rfl, ?_⟩))
            go_ret
            exact ⟨er, bw⟩

/-! ### spec_l27Ok: function 49 -/
def spec_l27Ok.j0 : Nat → Bool → Int → ByteArray → Int → Int → Int → Int → Int → Int → Bool → Option (Bool)
  | 0, _, _, _, _, _, _, _, _, _, _ => none
  | k + 1, x48, x185000, x185001, x185002, x185003, x185004, x185005, x185006, x185007, x185008 => if x48 = true then (some (x185001.toList == ([] : List UInt8) && ((x185002 == 0 && ((x185003 == 0 && (x185004 == 0 && (x185005 == 0))))) && (x185006 == 0 && (x185007 == 0 && (!x185008)))))) else (some false)
def spec_l27Ok.f (k : Nat) (a0_0 : Int) (a0_1 : ByteArray) (a0_2 : Int) (a0_3 : Int) (a0_4 : Int) (a0_5 : Int) (a0_6 : Int) (a0_7 : Int) (a0_8 : Bool) : Option (Bool) := if a0_0 = 1 then ((spec_l27Along.f k a0_0 a0_1 a0_2 a0_3 a0_4 a0_5 a0_6 a0_7 a0_8).bind fun t185 => (if t185 = true then (some (a0_7 == 0)) else (some false))) else (if a0_0 = 2 then ((spec_l27Along.f k a0_0 a0_1 a0_2 a0_3 a0_4 a0_5 a0_6 a0_7 a0_8).bind fun t186 => (if t186 = true then ((spec_l00In.f a0_7 0 23).bind fun t187 => (some t187)) else (some false))) else (if a0_0 = 4 then ((spec_IsName.f k a0_1).bind fun t188 => (if t188 = true then ((spec_l02Line.f k a0_2 a0_3 a0_4 a0_5).bind fun t189 => (if t189 = true then (if a0_6 = 0 then (if a0_7 = 0 then (some (!a0_8)) else (some false)) else (some false)) else (some false))) else (some false))) else (if a0_0 = 3 then (spec_l27Ok.j0 k (a0_0 == 3) a0_0 a0_1 a0_2 a0_3 a0_4 a0_5 a0_6 a0_7 a0_8) else (if a0_0 = 5 then (spec_l27Ok.j0 k (a0_0 == 5) a0_0 a0_1 a0_2 a0_3 a0_4 a0_5 a0_6 a0_7 a0_8) else (spec_l27Ok.j0 k (a0_0 == 6) a0_0 a0_1 a0_2 a0_3 a0_4 a0_5 a0_6 a0_7 a0_8)))))
theorem spec_l27Ok.mono_l : ∀ k, (∀ y0 y1 y2 y3 y4 y5 y6 y7 y8 y9, LeO (spec_l27Ok.j0 k y0 y1 y2 y3 y4 y5 y6 y7 y8 y9) (spec_l27Ok.j0 (k + 1) y0 y1 y2 y3 y4 y5 y6 y7 y8 y9))
  | 0 => fun _ _ _ _ _ _ _ _ _ _ r h => by simp [spec_l27Ok.j0] at h
  | k + 1 => by
    have ih0 := spec_l27Ok.mono_l k
    · intro y0 y1 y2 y3 y4 y5 y6 y7 y8 y9
      unfold spec_l27Ok.j0
      repeat' first
      | (with_reducible exact ih0 _ _ _ _ _ _ _ _ _ _)
      | (with_reducible exact spec_IsName.mono _ _)
      | (with_reducible exact spec_l02Line.mono _ _ _ _ _)
      | (with_reducible exact spec_l27Along.mono _ _ _ _ _ _ _ _ _ _)
      | (with_reducible exact LeO.refl _)
      | (with_reducible exact LeO.none _)
      | (with_reducible refine LeO.ite ?_ ?_)
      | (with_reducible refine LeO.bind ?_ (fun _ => ?_))
      | exact ih0 _ _ _ _ _ _ _ _ _ _
      | exact spec_IsName.mono _ _
      | exact spec_l02Line.mono _ _ _ _ _
      | exact spec_l27Along.mono _ _ _ _ _ _ _ _ _ _
      | exact LeO.none _
      | refine LeO.ite ?_ ?_
      | refine LeO.bind ?_ (fun _ => ?_)
theorem spec_l27Ok.mono : ∀ a0 a1 a2 a3 a4 a5 a6 a7 a8 k, LeO (spec_l27Ok.f k a0 a1 a2 a3 a4 a5 a6 a7 a8) (spec_l27Ok.f (k + 1) a0 a1 a2 a3 a4 a5 a6 a7 a8) := by
  intro a0 a1 a2 a3 a4 a5 a6 a7 a8 k
  have ih0 := spec_l27Ok.mono_l k
  unfold spec_l27Ok.f
  repeat' first
      | (with_reducible exact ih0 _ _ _ _ _ _ _ _ _ _)
      | (with_reducible exact spec_IsName.mono _ _)
      | (with_reducible exact spec_l02Line.mono _ _ _ _ _)
      | (with_reducible exact spec_l27Along.mono _ _ _ _ _ _ _ _ _ _)
      | (with_reducible exact LeO.refl _)
      | (with_reducible exact LeO.none _)
      | (with_reducible refine LeO.ite ?_ ?_)
      | (with_reducible refine LeO.bind ?_ (fun _ => ?_))
      | exact ih0 _ _ _ _ _ _ _ _ _ _
      | exact spec_IsName.mono _ _
      | exact spec_l02Line.mono _ _ _ _ _
      | exact spec_l27Along.mono _ _ _ _ _ _ _ _ _ _
      | exact LeO.none _
      | refine LeO.ite ?_ ?_
      | refine LeO.bind ?_ (fun _ => ?_)
set_option maxHeartbeats 8000000 in
set_option maxRecDepth 100000 in
theorem spec_l27Ok.calls (k : Nat) (a0_0 : Int) (a0_1 : ByteArray) (a0_2 : Int) (a0_3 : Int) (a0_4 : Int) (a0_5 : Int) (a0_6 : Int) (a0_7 : Int) (a0_8 : Bool) (r : Bool) (w : World) (h : spec_l27Ok.f k a0_0 a0_1 a0_2 a0_3 a0_4 a0_5 a0_6 a0_7 a0_8 = some r) :
    Calls Tryd.prog 49 #[.agg #[.int .i64 a0_0, .string a0_1, .int .i64 a0_2, .int .i64 a0_3, .int .i64 a0_4, .int .i64 a0_5, .int .i64 a0_6, .int .i64 a0_7, .bool a0_8]] w fun e w' => e = .returned (.bool r) ∧ Below w.heap.size w w' := by
  have hu34 := Tryd.underlying34
  have hu32 := Tryd.underlying32
  have HB := Aside0.mk (Below.refl w.heap.size w)
  have H : (if a0_0 = 1 then ((spec_l27Along.f k a0_0 a0_1 a0_2 a0_3 a0_4 a0_5 a0_6 a0_7 a0_8).bind fun t185 => (if t185 = true then (some (a0_7 == 0)) else (some false))) else (if a0_0 = 2 then ((spec_l27Along.f k a0_0 a0_1 a0_2 a0_3 a0_4 a0_5 a0_6 a0_7 a0_8).bind fun t186 => (if t186 = true then ((spec_l00In.f a0_7 0 23).bind fun t187 => (some t187)) else (some false))) else (if a0_0 = 4 then ((spec_IsName.f k a0_1).bind fun t188 => (if t188 = true then ((spec_l02Line.f k a0_2 a0_3 a0_4 a0_5).bind fun t189 => (if t189 = true then (if a0_6 = 0 then (if a0_7 = 0 then (some (!a0_8)) else (some false)) else (some false)) else (some false))) else (some false))) else (if a0_0 = 3 then (spec_l27Ok.j0 k (a0_0 == 3) a0_0 a0_1 a0_2 a0_3 a0_4 a0_5 a0_6 a0_7 a0_8) else (if a0_0 = 5 then (spec_l27Ok.j0 k (a0_0 == 5) a0_0 a0_1 a0_2 a0_3 a0_4 a0_5 a0_6 a0_7 a0_8) else (spec_l27Ok.j0 k (a0_0 == 6) a0_0 a0_1 a0_2 a0_3 a0_4 a0_5 a0_6 a0_7 a0_8)))))) = some r := h
  clear h
  by_cases c2 : a0_0 = 1
  · rw [if_pos c2] at H
    have c2b0 : (a0_0 == 1) = true := beq_iff_eq.mpr c2
    have c2b1 : (a0_0 != 1) = false := bne_eq_false_iff_eq.mpr c2
    clear c2
    replace H := Option.bind_eq_some_iff.mp H
    obtain ⟨t185, A30, H⟩ := H
    replace H : (if t185 = true then (some (a0_7 == 0)) else (some false)) = some r := H
    have A3 := Aside0.mk A30
    clear A30
    by_cases c4 : t185 = true
    · subst c4
      rw [if_pos rfl] at H
      obtain rfl := Option.some.inj H
      go_enter Tryd.func49, Tryd.ntmps49
      go_wp2_with (first | ((with_reducible refine gate_dst (N := 1) rfl ?_); refine bx #[.int .i64 a0_0, .string a0_1, .int .i64 a0_2, .int .i64 a0_3, .int .i64 a0_4, .int .i64 a0_5, .int .i64 a0_6, .int .i64 a0_7, .bool a0_8] 34 ?_; intro gb184 hg w5 hbox hb; have BK184 := Aside0.mk hbox; have GW184 := bg hg; have GE184 := bg hg; replace HB := bs hb; clear hb hbox hg; obtain ⟨z6_0, z6_1, z6_2, z6_3, z6_4, z6_5, z6_6, z6_7, z6_8, y6_0, y6_1, y6_2, y6_3, y6_4, y6_5, y6_6, y6_7, y6_8⟩ := bq9 BK184) | ((with_reducible refine gate_callee (f := 87) rfl ?_); refine gl (some 8) Tryd.func87 #[.agg #[.int .i64 a0_0, .string a0_1, .int .i64 a0_2, .int .i64 a0_3, .int .i64 a0_4, .int .i64 a0_5, .int .i64 a0_6, .int .i64 a0_7, .bool a0_8]] ?_; (with_reducible refine (spec_l27Along.calls k a0_0 a0_1 a0_2 a0_3 a0_4 a0_5 a0_6 a0_7 a0_8 true _ A3.out).mono ?_); rintro e w7 ⟨rfl, hb⟩; refine ⟨_, rfl, ?_⟩; replace BK184 := bb BK184 hb; replace HB := bs hb; (try clear hb); (try clear hb2); (try clear hk); (try clear hi); obtain ⟨z8_0, z8_1, z8_2, z8_3, z8_4, z8_5, z8_6, z8_7, z8_8, y8_0, y8_1, y8_2, y8_3, y8_4, y8_5, y8_6, y8_7, y8_8⟩ := bq9 BK184))
      go_ret
      exact ⟨er, bw⟩
    · replace c4 := Bool.eq_false_iff.mpr c4
      subst c4
      rw [if_neg nf] at H
      obtain rfl := Option.some.inj H
      go_enter Tryd.func49, Tryd.ntmps49
      go_wp2_with (first | ((with_reducible refine gate_dst (N := 1) rfl ?_); refine bx #[.int .i64 a0_0, .string a0_1, .int .i64 a0_2, .int .i64 a0_3, .int .i64 a0_4, .int .i64 a0_5, .int .i64 a0_6, .int .i64 a0_7, .bool a0_8] 34 ?_; intro gb184 hg w9 hbox hb; have BK184 := Aside0.mk hbox; have GW184 := bg hg; have GE184 := bg hg; replace HB := bs hb; clear hb hbox hg; obtain ⟨z10_0, z10_1, z10_2, z10_3, z10_4, z10_5, z10_6, z10_7, z10_8, y10_0, y10_1, y10_2, y10_3, y10_4, y10_5, y10_6, y10_7, y10_8⟩ := bq9 BK184) | ((with_reducible refine gate_callee (f := 87) rfl ?_); refine gl (some 8) Tryd.func87 #[.agg #[.int .i64 a0_0, .string a0_1, .int .i64 a0_2, .int .i64 a0_3, .int .i64 a0_4, .int .i64 a0_5, .int .i64 a0_6, .int .i64 a0_7, .bool a0_8]] ?_; (with_reducible refine (spec_l27Along.calls k a0_0 a0_1 a0_2 a0_3 a0_4 a0_5 a0_6 a0_7 a0_8 false _ A3.out).mono ?_); rintro e w11 ⟨rfl, hb⟩; refine ⟨_, rfl, ?_⟩; replace BK184 := bb BK184 hb; replace HB := bs hb; (try clear hb); (try clear hb2); (try clear hk); (try clear hi)))
      go_ret
      exact ⟨er, bw⟩
  · rw [if_neg c2] at H
    have c2b0 : (a0_0 == 1) = false := beq_eq_false_iff_ne.mpr c2
    have c2b1 : (a0_0 != 1) = true := bne_iff_ne.mpr c2
    by_cases c12 : a0_0 = 2
    · rw [if_pos c12] at H
      have c12b0 : (a0_0 == 2) = true := beq_iff_eq.mpr c12
      have c12b1 : (a0_0 != 2) = false := bne_eq_false_iff_eq.mpr c12
      clear c12
      replace H := Option.bind_eq_some_iff.mp H
      obtain ⟨t186, A130, H⟩ := H
      replace H : (if t186 = true then ((spec_l00In.f a0_7 0 23).bind fun t187 => (some t187)) else (some false)) = some r := H
      have A13 := Aside0.mk A130
      clear A130
      by_cases c14 : t186 = true
      · subst c14
        rw [if_pos rfl] at H
        replace H := Option.bind_eq_some_iff.mp H
        obtain ⟨t187, A150, H⟩ := H
        replace H : (some t187) = some r := H
        have A15 := Aside0.mk A150
        clear A150
        obtain rfl := Option.some.inj H
        go_enter Tryd.func49, Tryd.ntmps49
        go_wp2_with (first | ((with_reducible refine gate_dst (N := 1) rfl ?_); refine bx #[.int .i64 a0_0, .string a0_1, .int .i64 a0_2, .int .i64 a0_3, .int .i64 a0_4, .int .i64 a0_5, .int .i64 a0_6, .int .i64 a0_7, .bool a0_8] 34 ?_; intro gb184 hg w16 hbox hb; have BK184 := Aside0.mk hbox; have GW184 := bg hg; have GE184 := bg hg; replace HB := bs hb; clear hb hbox hg; obtain ⟨z17_0, z17_1, z17_2, z17_3, z17_4, z17_5, z17_6, z17_7, z17_8, y17_0, y17_1, y17_2, y17_3, y17_4, y17_5, y17_6, y17_7, y17_8⟩ := bq9 BK184) | ((with_reducible refine gate_callee (f := 87) rfl ?_); refine gl (some 17) Tryd.func87 #[.agg #[.int .i64 a0_0, .string a0_1, .int .i64 a0_2, .int .i64 a0_3, .int .i64 a0_4, .int .i64 a0_5, .int .i64 a0_6, .int .i64 a0_7, .bool a0_8]] ?_; (with_reducible refine (spec_l27Along.calls k a0_0 a0_1 a0_2 a0_3 a0_4 a0_5 a0_6 a0_7 a0_8 true _ A13.out).mono ?_); rintro e w18 ⟨rfl, hb⟩; refine ⟨_, rfl, ?_⟩; replace BK184 := bb BK184 hb; replace HB := bs hb; (try clear hb); (try clear hb2); (try clear hk); (try clear hi); obtain ⟨z19_0, z19_1, z19_2, z19_3, z19_4, z19_5, z19_6, z19_7, z19_8, y19_0, y19_1, y19_2, y19_3, y19_4, y19_5, y19_6, y19_7, y19_8⟩ := bq9 BK184) | (go_at_call 88; (with_reducible refine (spec_l00In.calls a0_7 0 23 t187 _ A15.out).mono ?_); rintro e w' ⟨rfl, ⟨nd, rfl⟩⟩))
        go_ret
        exact ⟨er, bw⟩
      · replace c14 := Bool.eq_false_iff.mpr c14
        subst c14
        rw [if_neg nf] at H
        obtain rfl := Option.some.inj H
        go_enter Tryd.func49, Tryd.ntmps49
        go_wp2_with (first | ((with_reducible refine gate_dst (N := 1) rfl ?_); refine bx #[.int .i64 a0_0, .string a0_1, .int .i64 a0_2, .int .i64 a0_3, .int .i64 a0_4, .int .i64 a0_5, .int .i64 a0_6, .int .i64 a0_7, .bool a0_8] 34 ?_; intro gb184 hg w20 hbox hb; have BK184 := Aside0.mk hbox; have GW184 := bg hg; have GE184 := bg hg; replace HB := bs hb; clear hb hbox hg; obtain ⟨z21_0, z21_1, z21_2, z21_3, z21_4, z21_5, z21_6, z21_7, z21_8, y21_0, y21_1, y21_2, y21_3, y21_4, y21_5, y21_6, y21_7, y21_8⟩ := bq9 BK184) | ((with_reducible refine gate_callee (f := 87) rfl ?_); refine gl (some 17) Tryd.func87 #[.agg #[.int .i64 a0_0, .string a0_1, .int .i64 a0_2, .int .i64 a0_3, .int .i64 a0_4, .int .i64 a0_5, .int .i64 a0_6, .int .i64 a0_7, .bool a0_8]] ?_; (with_reducible refine (spec_l27Along.calls k a0_0 a0_1 a0_2 a0_3 a0_4 a0_5 a0_6 a0_7 a0_8 false _ A13.out).mono ?_); rintro e w22 ⟨rfl, hb⟩; refine ⟨_, rfl, ?_⟩; replace BK184 := bb BK184 hb; replace HB := bs hb; (try clear hb); (try clear hb2); (try clear hk); (try clear hi)))
        go_ret
        exact ⟨er, bw⟩
    · rw [if_neg c12] at H
      have c12b0 : (a0_0 == 2) = false := beq_eq_false_iff_ne.mpr c12
      have c12b1 : (a0_0 != 2) = true := bne_iff_ne.mpr c12
      by_cases c23 : a0_0 = 4
      · rw [if_pos c23] at H
        have c23b0 : (a0_0 == 4) = true := beq_iff_eq.mpr c23
        have c23b1 : (a0_0 != 4) = false := bne_eq_false_iff_eq.mpr c23
        clear c23
        replace H := Option.bind_eq_some_iff.mp H
        obtain ⟨t188, A240, H⟩ := H
        replace H : (if t188 = true then ((spec_l02Line.f k a0_2 a0_3 a0_4 a0_5).bind fun t189 => (if t189 = true then (if a0_6 = 0 then (if a0_7 = 0 then (some (!a0_8)) else (some false)) else (some false)) else (some false))) else (some false)) = some r := H
        have A24 := Aside0.mk A240
        clear A240
        by_cases c25 : t188 = true
        · subst c25
          rw [if_pos rfl] at H
          replace H := Option.bind_eq_some_iff.mp H
          obtain ⟨t189, A260, H⟩ := H
          replace H : (if t189 = true then (if a0_6 = 0 then (if a0_7 = 0 then (some (!a0_8)) else (some false)) else (some false)) else (some false)) = some r := H
          have A26 := Aside0.mk A260
          clear A260
          by_cases c27 : t189 = true
          · subst c27
            rw [if_pos rfl] at H
            by_cases c28 : a0_6 = 0
            · rw [if_pos c28] at H
              have c28b0 : (a0_6 == 0) = true := beq_iff_eq.mpr c28
              have c28b1 : (a0_6 != 0) = false := bne_eq_false_iff_eq.mpr c28
              clear c28
              by_cases c29 : a0_7 = 0
              · rw [if_pos c29] at H
                have c29b0 : (a0_7 == 0) = true := beq_iff_eq.mpr c29
                have c29b1 : (a0_7 != 0) = false := bne_eq_false_iff_eq.mpr c29
                clear c29
                obtain rfl := Option.some.inj H
                go_enter Tryd.func49, Tryd.ntmps49
                go_wp2_with (first | ((with_reducible refine gate_dst (N := 1) rfl ?_); refine bx #[.int .i64 a0_0, .string a0_1, .int .i64 a0_2, .int .i64 a0_3, .int .i64 a0_4, .int .i64 a0_5, .int .i64 a0_6, .int .i64 a0_7, .bool a0_8] 34 ?_; intro gb184 hg w30 hbox hb; have BK184 := Aside0.mk hbox; have GW184 := bg hg; have GE184 := bg hg; replace HB := bs hb; clear hb hbox hg; obtain ⟨z31_0, z31_1, z31_2, z31_3, z31_4, z31_5, z31_6, z31_7, z31_8, y31_0, y31_1, y31_2, y31_3, y31_4, y31_5, y31_6, y31_7, y31_8⟩ := bq9 BK184) | ((with_reducible refine gate_callee (f := 89) rfl ?_); refine gl (some 27) Tryd.func89 #[.string a0_1] ?_; (with_reducible refine (spec_IsName.calls k a0_1 true _ A24.out).mono ?_); rintro e w' ⟨rfl, ⟨nd, rfl⟩⟩; refine ⟨_, rfl, ?_⟩) | (go_at_call 90; (with_reducible refine (spec_l02Line.calls k a0_2 a0_3 a0_4 a0_5 true _ A26.out).mono ?_); rintro e w32 ⟨rfl, hb⟩; replace BK184 := bb BK184 hb; replace HB := bs hb; (try clear hb); (try clear hb2); (try clear hk); (try clear hi); obtain ⟨z33_0, z33_1, z33_2, z33_3, z33_4, z33_5, z33_6, z33_7, z33_8, y33_0, y33_1, y33_2, y33_3, y33_4, y33_5, y33_6, y33_7, y33_8⟩ := bq9 BK184))
                go_ret
                exact ⟨er, bw⟩
              · rw [if_neg c29] at H
                have c29b0 : (a0_7 == 0) = false := beq_eq_false_iff_ne.mpr c29
                have c29b1 : (a0_7 != 0) = true := bne_iff_ne.mpr c29
                obtain rfl := Option.some.inj H
                go_enter Tryd.func49, Tryd.ntmps49
                go_wp2_with (first | ((with_reducible refine gate_dst (N := 1) rfl ?_); refine bx #[.int .i64 a0_0, .string a0_1, .int .i64 a0_2, .int .i64 a0_3, .int .i64 a0_4, .int .i64 a0_5, .int .i64 a0_6, .int .i64 a0_7, .bool a0_8] 34 ?_; intro gb184 hg w34 hbox hb; have BK184 := Aside0.mk hbox; have GW184 := bg hg; have GE184 := bg hg; replace HB := bs hb; clear hb hbox hg; obtain ⟨z35_0, z35_1, z35_2, z35_3, z35_4, z35_5, z35_6, z35_7, z35_8, y35_0, y35_1, y35_2, y35_3, y35_4, y35_5, y35_6, y35_7, y35_8⟩ := bq9 BK184) | ((with_reducible refine gate_callee (f := 89) rfl ?_); refine gl (some 27) Tryd.func89 #[.string a0_1] ?_; (with_reducible refine (spec_IsName.calls k a0_1 true _ A24.out).mono ?_); rintro e w' ⟨rfl, ⟨nd, rfl⟩⟩; refine ⟨_, rfl, ?_⟩) | (go_at_call 90; (with_reducible refine (spec_l02Line.calls k a0_2 a0_3 a0_4 a0_5 true _ A26.out).mono ?_); rintro e w36 ⟨rfl, hb⟩; replace BK184 := bb BK184 hb; replace HB := bs hb; (try clear hb); (try clear hb2); (try clear hk); (try clear hi); obtain ⟨z37_0, z37_1, z37_2, z37_3, z37_4, z37_5, z37_6, z37_7, z37_8, y37_0, y37_1, y37_2, y37_3, y37_4, y37_5, y37_6, y37_7, y37_8⟩ := bq9 BK184))
                go_ret
                exact ⟨er, bw⟩
            · rw [if_neg c28] at H
              have c28b0 : (a0_6 == 0) = false := beq_eq_false_iff_ne.mpr c28
              have c28b1 : (a0_6 != 0) = true := bne_iff_ne.mpr c28
              obtain rfl := Option.some.inj H
              go_enter Tryd.func49, Tryd.ntmps49
              go_wp2_with (first | ((with_reducible refine gate_dst (N := 1) rfl ?_); refine bx #[.int .i64 a0_0, .string a0_1, .int .i64 a0_2, .int .i64 a0_3, .int .i64 a0_4, .int .i64 a0_5, .int .i64 a0_6, .int .i64 a0_7, .bool a0_8] 34 ?_; intro gb184 hg w38 hbox hb; have BK184 := Aside0.mk hbox; have GW184 := bg hg; have GE184 := bg hg; replace HB := bs hb; clear hb hbox hg; obtain ⟨z39_0, z39_1, z39_2, z39_3, z39_4, z39_5, z39_6, z39_7, z39_8, y39_0, y39_1, y39_2, y39_3, y39_4, y39_5, y39_6, y39_7, y39_8⟩ := bq9 BK184) | ((with_reducible refine gate_callee (f := 89) rfl ?_); refine gl (some 27) Tryd.func89 #[.string a0_1] ?_; (with_reducible refine (spec_IsName.calls k a0_1 true _ A24.out).mono ?_); rintro e w' ⟨rfl, ⟨nd, rfl⟩⟩; refine ⟨_, rfl, ?_⟩) | (go_at_call 90; (with_reducible refine (spec_l02Line.calls k a0_2 a0_3 a0_4 a0_5 true _ A26.out).mono ?_); rintro e w40 ⟨rfl, hb⟩; replace BK184 := bb BK184 hb; replace HB := bs hb; (try clear hb); (try clear hb2); (try clear hk); (try clear hi); obtain ⟨z41_0, z41_1, z41_2, z41_3, z41_4, z41_5, z41_6, z41_7, z41_8, y41_0, y41_1, y41_2, y41_3, y41_4, y41_5, y41_6, y41_7, y41_8⟩ := bq9 BK184))
              go_ret
              exact ⟨er, bw⟩
          · replace c27 := Bool.eq_false_iff.mpr c27
            subst c27
            rw [if_neg nf] at H
            obtain rfl := Option.some.inj H
            go_enter Tryd.func49, Tryd.ntmps49
            go_wp2_with (first | ((with_reducible refine gate_dst (N := 1) rfl ?_); refine bx #[.int .i64 a0_0, .string a0_1, .int .i64 a0_2, .int .i64 a0_3, .int .i64 a0_4, .int .i64 a0_5, .int .i64 a0_6, .int .i64 a0_7, .bool a0_8] 34 ?_; intro gb184 hg w42 hbox hb; have BK184 := Aside0.mk hbox; have GW184 := bg hg; have GE184 := bg hg; replace HB := bs hb; clear hb hbox hg; obtain ⟨z43_0, z43_1, z43_2, z43_3, z43_4, z43_5, z43_6, z43_7, z43_8, y43_0, y43_1, y43_2, y43_3, y43_4, y43_5, y43_6, y43_7, y43_8⟩ := bq9 BK184) | ((with_reducible refine gate_callee (f := 89) rfl ?_); refine gl (some 27) Tryd.func89 #[.string a0_1] ?_; (with_reducible refine (spec_IsName.calls k a0_1 true _ A24.out).mono ?_); rintro e w' ⟨rfl, ⟨nd, rfl⟩⟩; refine ⟨_, rfl, ?_⟩) | (go_at_call 90; (with_reducible refine (spec_l02Line.calls k a0_2 a0_3 a0_4 a0_5 false _ A26.out).mono ?_); rintro e w44 ⟨rfl, hb⟩; replace BK184 := bb BK184 hb; replace HB := bs hb; (try clear hb); (try clear hb2); (try clear hk); (try clear hi)))
            go_ret
            exact ⟨er, bw⟩
        · replace c25 := Bool.eq_false_iff.mpr c25
          subst c25
          rw [if_neg nf] at H
          obtain rfl := Option.some.inj H
          go_enter Tryd.func49, Tryd.ntmps49
          go_wp2_with (first | ((with_reducible refine gate_dst (N := 1) rfl ?_); refine bx #[.int .i64 a0_0, .string a0_1, .int .i64 a0_2, .int .i64 a0_3, .int .i64 a0_4, .int .i64 a0_5, .int .i64 a0_6, .int .i64 a0_7, .bool a0_8] 34 ?_; intro gb184 hg w45 hbox hb; have BK184 := Aside0.mk hbox; have GW184 := bg hg; have GE184 := bg hg; replace HB := bs hb; clear hb hbox hg; obtain ⟨z46_0, z46_1, z46_2, z46_3, z46_4, z46_5, z46_6, z46_7, z46_8, y46_0, y46_1, y46_2, y46_3, y46_4, y46_5, y46_6, y46_7, y46_8⟩ := bq9 BK184) | ((with_reducible refine gate_callee (f := 89) rfl ?_); refine gl (some 27) Tryd.func89 #[.string a0_1] ?_; (with_reducible refine (spec_IsName.calls k a0_1 false _ A24.out).mono ?_); rintro e w' ⟨rfl, ⟨nd, rfl⟩⟩; refine ⟨_, rfl, ?_⟩))
          go_ret
          exact ⟨er, bw⟩
      · rw [if_neg c23] at H
        have c23b0 : (a0_0 == 4) = false := beq_eq_false_iff_ne.mpr c23
        have c23b1 : (a0_0 != 4) = true := bne_iff_ne.mpr c23
        have HC47 := Aside0.mk H
        clear H
        go_enter Tryd.func49, Tryd.ntmps49
        go_upto_if 48 with (first | ((with_reducible refine gate_dst (N := 1) rfl ?_); refine bx #[.int .i64 a0_0, .string a0_1, .int .i64 a0_2, .int .i64 a0_3, .int .i64 a0_4, .int .i64 a0_5, .int .i64 a0_6, .int .i64 a0_7, .bool a0_8] 34 ?_; intro gb184 hg w48 hbox hb; have BK184 := Aside0.mk hbox; have GW184 := bg hg; have GE184 := bg hg; replace HB := bs hb; clear hb hbox hg; obtain ⟨z49_0, z49_1, z49_2, z49_3, z49_4, z49_5, z49_6, z49_7, z49_8, y49_0, y49_1, y49_2, y49_3, y49_4, y49_5, y49_6, y49_7, y49_8⟩ := bq9 BK184))
        (try simp only [Act.put, List.setIfInBounds_toArray, List.set_cons_zero, List.set_cons_succ])
        go_cut [48] (fun v48 wc => ∃ (kq : Nat) (x48_46 : Bool), v48 = .bool x48_46 ∧ Aside0 (spec_l27Ok.j0 kq x48_46 a0_0 a0_1 a0_2 a0_3 a0_4 a0_5 a0_6 a0_7 a0_8 = some r) ∧ Aside0 (kq ≤ k) ∧ Aside0 (wc.heap[gb184]? = some (.cells #[.int .i64 a0_0, .string a0_1, .int .i64 a0_2, .int .i64 a0_3, .int .i64 a0_4, .int .i64 a0_5, .int .i64 a0_6, .int .i64 a0_7, .bool a0_8] 34 (0, 0))) ∧ Aside0 (Below w.heap.size w wc))
        case first =>
          have H := HC47.out
          clear HC47
          by_cases c50 : a0_0 = 3
          · rw [if_pos c50] at H
            have c50b0 : (a0_0 == 3) = true := beq_iff_eq.mpr c50
            have c50b1 : (a0_0 != 3) = false := bne_eq_false_iff_eq.mpr c50
            clear c50
            (first | rw [c50b0] | (simp only [i64_w, i32_w]; rw [c50b0]) | skip)
            have H' := Aside0.mk H
            clear H
            go_wp2
            go_meet
            case rel => exact ⟨_, ((a0_0 == 3)), (by first | rfl | (simp; done) | (simp [*]; done)), H', ⟨by first | omega | exact Nat.le_refl _⟩, ⟨by refine bk (h := ?_); exact BK184.out⟩, ⟨bw⟩⟩
          · rw [if_neg c50] at H
            have c50b0 : (a0_0 == 3) = false := beq_eq_false_iff_ne.mpr c50
            have c50b1 : (a0_0 != 3) = true := bne_iff_ne.mpr c50
            (first | rw [c50b0] | (simp only [i64_w, i32_w]; rw [c50b0]) | skip)
            by_cases c51 : a0_0 = 5
            · rw [if_pos c51] at H
              have c51b0 : (a0_0 == 5) = true := beq_iff_eq.mpr c51
              have c51b1 : (a0_0 != 5) = false := bne_eq_false_iff_eq.mpr c51
              clear c51
              have H' := Aside0.mk H
              clear H
              go_wp2
              go_meet
              case rel => exact ⟨_, ((a0_0 == 5)), (by first | rfl | (simp; done) | (simp [*]; done)), H', ⟨by first | omega | exact Nat.le_refl _⟩, ⟨by refine bk (h := ?_); exact BK184.out⟩, ⟨bw⟩⟩
            · rw [if_neg c51] at H
              have c51b0 : (a0_0 == 5) = false := beq_eq_false_iff_ne.mpr c51
              have c51b1 : (a0_0 != 5) = true := bne_iff_ne.mpr c51
              have H' := Aside0.mk H
              clear H
              go_wp2
              go_meet
              case rel => exact ⟨_, ((a0_0 == 6)), (by first | rfl | (simp; done) | (simp [*]; done)), H', ⟨by first | omega | exact Nat.le_refl _⟩, ⟨by refine bk (h := ?_); exact BK184.out⟩, ⟨bw⟩⟩
        case rest =>
          clear HC47
          try clear c1
          try clear c2
          try clear c2b0
          try clear c2b1
          try clear p2
          try clear c4
          try clear c5
          try clear c8
          try clear c12
          try clear c12b0
          try clear c12b1
          try clear c14
          try clear c23
          try clear c23b0
          try clear c23b1
          try clear c25
          try clear c27
          try clear c28
          try clear c28b0
          try clear c28b1
          try clear c29
          try clear c29b0
          try clear c29b1
          try clear c49
          try clear c50
          try clear c50b0
          try clear c50b1
          try clear c51
          try clear c51b0
          try clear c51b1
          try clear z10_0 z10_1 z10_2 z10_3 z10_4 z10_5 z10_6 z10_7 z10_8 y10_0 y10_1 y10_2 y10_3 y10_4 y10_5 y10_6 y10_7 y10_8
          try clear z17_0 z17_1 z17_2 z17_3 z17_4 z17_5 z17_6 z17_7 z17_8 y17_0 y17_1 y17_2 y17_3 y17_4 y17_5 y17_6 y17_7 y17_8
          try clear z19_0 z19_1 z19_2 z19_3 z19_4 z19_5 z19_6 z19_7 z19_8 y19_0 y19_1 y19_2 y19_3 y19_4 y19_5 y19_6 y19_7 y19_8
          try clear z21_0 z21_1 z21_2 z21_3 z21_4 z21_5 z21_6 z21_7 z21_8 y21_0 y21_1 y21_2 y21_3 y21_4 y21_5 y21_6 y21_7 y21_8
          try clear z31_0 z31_1 z31_2 z31_3 z31_4 z31_5 z31_6 z31_7 z31_8 y31_0 y31_1 y31_2 y31_3 y31_4 y31_5 y31_6 y31_7 y31_8
          try clear z33_0 z33_1 z33_2 z33_3 z33_4 z33_5 z33_6 z33_7 z33_8 y33_0 y33_1 y33_2 y33_3 y33_4 y33_5 y33_6 y33_7 y33_8
          try clear z35_0 z35_1 z35_2 z35_3 z35_4 z35_5 z35_6 z35_7 z35_8 y35_0 y35_1 y35_2 y35_3 y35_4 y35_5 y35_6 y35_7 y35_8
          try clear z37_0 z37_1 z37_2 z37_3 z37_4 z37_5 z37_6 z37_7 z37_8 y37_0 y37_1 y37_2 y37_3 y37_4 y37_5 y37_6 y37_7 y37_8
          try clear z39_0 z39_1 z39_2 z39_3 z39_4 z39_5 z39_6 z39_7 z39_8 y39_0 y39_1 y39_2 y39_3 y39_4 y39_5 y39_6 y39_7 y39_8
          try clear z41_0 z41_1 z41_2 z41_3 z41_4 z41_5 z41_6 z41_7 z41_8 y41_0 y41_1 y41_2 y41_3 y41_4 y41_5 y41_6 y41_7 y41_8
          try clear z43_0 z43_1 z43_2 z43_3 z43_4 z43_5 z43_6 z43_7 z43_8 y43_0 y43_1 y43_2 y43_3 y43_4 y43_5 y43_6 y43_7 y43_8
          try clear z46_0 z46_1 z46_2 z46_3 z46_4 z46_5 z46_6 z46_7 z46_8 y46_0 y46_1 y46_2 y46_3 y46_4 y46_5 y46_6 y46_7 y46_8
          try clear z49_0 z49_1 z49_2 z49_3 z49_4 z49_5 z49_6 z49_7 z49_8 y49_0 y49_1 y49_2 y49_3 y49_4 y49_5 y49_6 y49_7 y49_8
          try clear z6_0 z6_1 z6_2 z6_3 z6_4 z6_5 z6_6 z6_7 z6_8 y6_0 y6_1 y6_2 y6_3 y6_4 y6_5 y6_6 y6_7 y6_8
          try clear z8_0 z8_1 z8_2 z8_3 z8_4 z8_5 z8_6 z8_7 z8_8 y8_0 y8_1 y8_2 y8_3 y8_4 y8_5 y8_6 y8_7 y8_8
          obtain ⟨kq, x48_46, rfl, HA, HJ46, BK184, HB⟩ := hcut
          cases kq with
          | zero => exact absurd HA.out (by simp [spec_l27Ok.j0])
          | succ kj46 =>
            have H := HA.out
            clear HA
            simp only [spec_l27Ok.j0] at H
            by_cases c52 : x48_46 = true
            · subst c52
              rw [if_pos rfl] at H
              obtain rfl := Option.some.inj H
              obtain ⟨z53_0, z53_1, z53_2, z53_3, z53_4, z53_5, z53_6, z53_7, z53_8, y53_0, y53_1, y53_2, y53_3, y53_4, y53_5, y53_6, y53_7, y53_8⟩ := bq9 BK184
              go_wp2
              go_ret
              exact ⟨er, bw⟩
            · replace c52 := Bool.eq_false_iff.mpr c52
              subst c52
              rw [if_neg nf] at H
              obtain rfl := Option.some.inj H
              go_wp2
              go_ret
              exact ⟨er, bw⟩

end Go.Proofs.YteadienaeapaeaaDoor.PY
