-- Made by a program of this session (myprint.py) out of the translation.
import Derived.Test.YteadienaeapaeaaZsrPCx0
import Derived.Test.YteadienaeapaeaaZsrPCx9
import Derived.Test.YteadienaeapaeaaZsrPCx10
import Derived.Test.YteadienaeapaeaaZsrShort
namespace Go.Proofs.Yteadienaeapaeaa.PC
open Go.Proofs.Yteadienaeapaeaa.Short
open Go.Proofs.Yteadienaeapaeaa.Dyn
open Go.RowKit Go.Proofs.YteadienaeapaeaaW.PrintWords Go.Proofs.YteadienaeapaeaaW.PrintLast Go.Proofs.YteadienaeapaeaaW.PrintMore
attribute [local go_sem] max2_int min2_int max_two min_two max_three min_three max_four min_four   -- for this text's walks alone
set_option linter.unusedVariables false
set_option linter.unusedSimpArgs false

/-! ### laws_eqFaceS: function 98 -/
def laws_eqFaceS.l0 : Nat → List (S121) → List (S121) → Int → Option (Bool)
  | 0, _, _, _ => none
  | k + 1, x0, x1, x5 => if x5 < (x0.length : Int) then (if 0 ≤ x5 then (if x5 < (x1.length : Int) then ((laws_eqFace.f k ((rd_T121 x0 x5).f0) ((rd_T121 x0 x5).f1.f0) ((rd_T121 x0 x5).f1.f1) ((rd_T121 x0 x5).f1.f2.f0) ((rd_T121 x0 x5).f1.f2.f1) ((rd_T121 x0 x5).f1.f2.f2) ((rd_T121 x0 x5).f1.f3.f0) ((rd_T121 x0 x5).f1.f3.f1) ((rd_T121 x0 x5).f1.f3.f2) ((rd_T121 x1 x5).f0) ((rd_T121 x1 x5).f1.f0) ((rd_T121 x1 x5).f1.f1) ((rd_T121 x1 x5).f1.f2.f0) ((rd_T121 x1 x5).f1.f2.f1) ((rd_T121 x1 x5).f1.f2.f2) ((rd_T121 x1 x5).f1.f3.f0) ((rd_T121 x1 x5).f1.f3.f1) ((rd_T121 x1 x5).f1.f3.f2)).bind fun t311 => (if t311 = true then (laws_eqFaceS.l0 k x0 x1 (wrap64 (x5 + 1))) else (some false))) else (none)) else (none)) else (some true)
def laws_eqFaceS.f (k : Nat) (l0 : List (S121)) (l1 : List (S121)) : Option (Bool) := if (l0.length : Int) = (l1.length : Int) then (laws_eqFaceS.l0 k l0 l1 0) else (some false)
theorem laws_eqFaceS.mono_l : ∀ k, (∀ y0 y1 y2, LeO (laws_eqFaceS.l0 k y0 y1 y2) (laws_eqFaceS.l0 (k + 1) y0 y1 y2))
  | 0 => fun _ _ _ r h => by simp [laws_eqFaceS.l0] at h
  | k + 1 => by
    have ih0 := laws_eqFaceS.mono_l k
    · intro y0 y1 y2
      unfold laws_eqFaceS.l0
      repeat' first
      | (with_reducible exact ih0 _ _ _)
      | (with_reducible exact laws_eqFace.mono _ _ _ _ _ _ _ _ _ _ _ _ _ _ _ _ _ _ _)
      | (with_reducible exact LeO.refl _)
      | (with_reducible exact LeO.none _)
      | (with_reducible refine LeO.ite ?_ ?_)
      | (with_reducible refine LeO.bind ?_ (fun _ => ?_))
      | exact ih0 _ _ _
      | exact laws_eqFace.mono _ _ _ _ _ _ _ _ _ _ _ _ _ _ _ _ _ _ _
      | exact LeO.none _
      | refine LeO.ite ?_ ?_
      | refine LeO.bind ?_ (fun _ => ?_)
theorem laws_eqFaceS.mono : ∀ a0 a1 k, LeO (laws_eqFaceS.f k a0 a1) (laws_eqFaceS.f (k + 1) a0 a1) := by
  intro a0 a1 k
  have ih0 := laws_eqFaceS.mono_l k
  unfold laws_eqFaceS.f
  repeat' first
      | (with_reducible exact ih0 _ _ _)
      | (with_reducible exact laws_eqFace.mono _ _ _ _ _ _ _ _ _ _ _ _ _ _ _ _ _ _ _)
      | (with_reducible exact LeO.refl _)
      | (with_reducible exact LeO.none _)
      | (with_reducible refine LeO.ite ?_ ?_)
      | (with_reducible refine LeO.bind ?_ (fun _ => ?_))
      | exact ih0 _ _ _
      | exact laws_eqFace.mono _ _ _ _ _ _ _ _ _ _ _ _ _ _ _ _ _ _ _
      | exact LeO.none _
      | refine LeO.ite ?_ ?_
      | refine LeO.bind ?_ (fun _ => ?_)
def laws_eqFaceS.T6 : Bool × List (List Nat × List Nat) := (true, [([], []), ([], []), ([0, 1], [0, 1]), ([2], [2]), ([], []), ([], []), ([4, 5], [4, 5]), ([6], [6]), ([3, 7], [3, 7]), ([8], [8])])
def laws_eqFaceS.B6 : List Nat := [0, 0, 3, 7, 0, 0, 48, 112, 255, 511]
theorem laws_eqFaceS.tab6 : rtab .any (opsOf Try.f98 6) = laws_eqFaceS.T6 := by kernel_rfl
theorem laws_eqFaceS.bits6 : waitsOk laws_eqFaceS.T6.2 laws_eqFaceS.B6 = true := by kernel_rfl
set_option maxHeartbeats 8000000 in
set_option maxRecDepth 100000 in
theorem laws_eqFaceS.calls (k : Nat) (A0 : Option Addr) (c0 : Nat) (l0 : List (S121)) (A1 : Option Addr) (c1 : Nat) (l1 : List (S121)) (r : Bool) (w : World) (hr0 : Kd.C k121 w A0 l0.length l0) (hc0 : l0.length ≤ c0) (hr1 : Kd.C k121 w A1 l1.length l1) (hc1 : l1.length ≤ c1) (h : laws_eqFaceS.f k l0 l1 = some r) :
    Calls Try.prog 98 #[.slice A0 l0.length c0, .slice A1 l1.length c1] w fun e w' => e = .returned (.bool r) ∧ Below w.heap.size w w' := by
  have hu121 := Try.underlying121
  have HR0 := Aside0.mk hr0
  have HC0 := Aside0.mk hc0
  clear hr0 hc0
  have HR1 := Aside0.mk hr1
  have HC1 := Aside0.mk hc1
  clear hr1 hc1
  have HB := Aside0.mk (Below.refl w.heap.size w)
  have H : (if (l0.length : Int) = (l1.length : Int) then (laws_eqFaceS.l0 k l0 l1 0) else (some false)) = some r := h
  clear h
  by_cases c3 : (l0.length : Int) = (l1.length : Int)
  · rw [if_pos c3] at H
    have c3b0 : ((l0.length : Int) == (l1.length : Int)) = true := beq_iff_eq.mpr c3
    have c3b1 : ((l0.length : Int) != (l1.length : Int)) = false := bne_eq_false_iff_eq.mpr c3
    have c3b2 : (l0.length == l1.length) = true := by first | simpa using c3 | (simp at c3 ⊢; omega)
    clear c3
    have H' := Aside0.mk H
    clear H
    go_enter Try.func98, Try.ntmps98
    go_wp2
    go_loopg [5] k (fun kq v5 w' => ∃ (x5_1 : Int), v5 = .int .i64 x5_1 ∧ Aside0 (laws_eqFaceS.l0 kq l0 l1 x5_1 = some r) ∧ Aside0 (kq ≤ k) ∧ Aside0 (Below w.heap.size w w'))
    case atStart => exact ⟨(0), (by first | rfl | (simp; done) | (simp [*]; done)), H', ⟨Nat.le_refl _⟩, ⟨bw⟩⟩
    case round =>
      clear H'
      try clear c1
      try clear p2
      try clear c3
      try clear c3b0
      try clear c3b1
      try clear c3b2
      obtain ⟨x5_1, rfl, HA, HK1, HB⟩ := hrel
      cases gk with
      | zero => exact absurd HA.out (by simp [laws_eqFaceS.l0])
      | succ k1 =>
        have H := HA.out
        clear HA
        simp only [laws_eqFaceS.l0] at H
        by_cases c4 : x5_1 < (l0.length : Int)
        · rw [if_pos c4] at H
          have c4b0 : decide (x5_1 < (l0.length : Int)) = true := decide_eq_true c4
          clear c4
          by_cases c5 : 0 ≤ x5_1
          · rw [if_pos c5] at H
            have c5b0 : decide (0 ≤ x5_1) = true := decide_eq_true c5
            clear c5
            by_cases c6 : x5_1 < (l1.length : Int)
            · rw [if_pos c6] at H
              have c6b0 : decide (x5_1 < (l1.length : Int)) = true := decide_eq_true c6
              clear c6
              replace H := Option.bind_eq_some_iff.mp H
              obtain ⟨t311, A70, H⟩ := H
              replace H : (if t311 = true then (laws_eqFaceS.l0 k1 l0 l1 (wrap64 (x5_1 + 1))) else (some false)) = some r := H
              have A7 := Aside0.mk A70
              clear A70
              by_cases c8 : t311 = true
              · subst c8
                rw [if_pos rfl] at H
                have H' := Aside0.mk H
                clear H
                try go_wp2
                replace HB := Aside0.mk (below_drew1 HB.out)
                have p309 : 0 ≤ (x5_1 : Int) := od
                have q309 : x5_1 < (l0.length : Int) := od
                obtain ⟨ad309, A309_0, c309_0, e309, hx309_0, hx309_1, hx309_2, hx309_3, hx309_4, hx309_5, hx309_6, hx309_7, hx309_8, hl309_0, hi309_0⟩ := at_T121 HR0.out x5_1 p309 q309
                have hw309_8 := hx309_8
                have hw309_7 := hx309_7
                have hw309_6 := hx309_6
                have hw309_5 := hx309_5
                have hw309_4 := hx309_4
                have hw309_3 := hx309_3
                have hw309_2 := hx309_2
                have hw309_1 := hx309_1
                have hw309_0 := hx309_0
                cases e309
                replace hx309_0 := bc hx309_0
                replace hx309_1 := bc hx309_1
                replace hx309_2 := bc hx309_2
                replace hx309_3 := bc hx309_3
                replace hx309_4 := bc hx309_4
                replace hx309_5 := bc hx309_5
                replace hx309_6 := bc hx309_6
                replace hx309_7 := bc hx309_7
                replace hx309_8 := bc hx309_8
                have HR309_0 := Aside0.mk hi309_0
                have HC309_0 := Aside0.mk hl309_0
                clear hi309_0 hl309_0
                replace p309 := eq_true p309
                replace q309 := eq_true q309
                have p310 : 0 ≤ (x5_1 : Int) := od
                have q310 : x5_1 < (l1.length : Int) := od
                obtain ⟨ad310, A310_0, c310_0, e310, hx310_0, hx310_1, hx310_2, hx310_3, hx310_4, hx310_5, hx310_6, hx310_7, hx310_8, hl310_0, hi310_0⟩ := at_T121 HR1.out x5_1 p310 q310
                have hw310_8 := hx310_8
                have hw310_7 := hx310_7
                have hw310_6 := hx310_6
                have hw310_5 := hx310_5
                have hw310_4 := hx310_4
                have hw310_3 := hx310_3
                have hw310_2 := hx310_2
                have hw310_1 := hx310_1
                have hw310_0 := hx310_0
                cases e310
                replace hx310_0 := bc hx310_0
                replace hx310_1 := bc hx310_1
                replace hx310_2 := bc hx310_2
                replace hx310_3 := bc hx310_3
                replace hx310_4 := bc hx310_4
                replace hx310_5 := bc hx310_5
                replace hx310_6 := bc hx310_6
                replace hx310_7 := bc hx310_7
                replace hx310_8 := bc hx310_8
                have HR310_0 := Aside0.mk hi310_0
                have HC310_0 := Aside0.mk hl310_0
                clear hi310_0 hl310_0
                replace p310 := eq_true p310
                replace q310 := eq_true q310
                refine start_ (n := 10) (S := fun w' => w'.cell? (ad309.add ((x5_1).toNat * 9)) = some (.slice A309_0 ((rd_T121 l0 x5_1).f0).length c309_0) ∧ w'.cell? ⟨(ad309.add ((x5_1).toNat * 9)).block, (ad309.add ((x5_1).toNat * 9)).off + 1, none⟩ = some (.int .i64 ((rd_T121 l0 x5_1).f1.f0)) ∧ w'.cell? ⟨(ad309.add ((x5_1).toNat * 9)).block, (ad309.add ((x5_1).toNat * 9)).off + 2, none⟩ = some (.bool ((rd_T121 l0 x5_1).f1.f1)) ∧ w'.cell? ⟨(ad309.add ((x5_1).toNat * 9)).block, (ad309.add ((x5_1).toNat * 9)).off + 3, none⟩ = some (.int .i64 ((rd_T121 l0 x5_1).f1.f2.f0)) ∧ w'.cell? ⟨(ad309.add ((x5_1).toNat * 9)).block, (ad309.add ((x5_1).toNat * 9)).off + 4, none⟩ = some (.int .i64 ((rd_T121 l0 x5_1).f1.f2.f1)) ∧ w'.cell? ⟨(ad309.add ((x5_1).toNat * 9)).block, (ad309.add ((x5_1).toNat * 9)).off + 5, none⟩ = some (.int .i64 ((rd_T121 l0 x5_1).f1.f2.f2)) ∧ w'.cell? ⟨(ad309.add ((x5_1).toNat * 9)).block, (ad309.add ((x5_1).toNat * 9)).off + 6, none⟩ = some (.int .i64 ((rd_T121 l0 x5_1).f1.f3.f0)) ∧ w'.cell? ⟨(ad309.add ((x5_1).toNat * 9)).block, (ad309.add ((x5_1).toNat * 9)).off + 7, none⟩ = some (.int .i64 ((rd_T121 l0 x5_1).f1.f3.f1)) ∧ w'.cell? ⟨(ad309.add ((x5_1).toNat * 9)).block, (ad309.add ((x5_1).toNat * 9)).off + 8, none⟩ = some (.int .i64 ((rd_T121 l0 x5_1).f1.f3.f2)) ∧ w'.cell? (ad310.add ((x5_1).toNat * 9)) = some (.slice A310_0 ((rd_T121 l1 x5_1).f0).length c310_0) ∧ w'.cell? ⟨(ad310.add ((x5_1).toNat * 9)).block, (ad310.add ((x5_1).toNat * 9)).off + 1, none⟩ = some (.int .i64 ((rd_T121 l1 x5_1).f1.f0)) ∧ w'.cell? ⟨(ad310.add ((x5_1).toNat * 9)).block, (ad310.add ((x5_1).toNat * 9)).off + 2, none⟩ = some (.bool ((rd_T121 l1 x5_1).f1.f1)) ∧ w'.cell? ⟨(ad310.add ((x5_1).toNat * 9)).block, (ad310.add ((x5_1).toNat * 9)).off + 3, none⟩ = some (.int .i64 ((rd_T121 l1 x5_1).f1.f2.f0)) ∧ w'.cell? ⟨(ad310.add ((x5_1).toNat * 9)).block, (ad310.add ((x5_1).toNat * 9)).off + 4, none⟩ = some (.int .i64 ((rd_T121 l1 x5_1).f1.f2.f1)) ∧ w'.cell? ⟨(ad310.add ((x5_1).toNat * 9)).block, (ad310.add ((x5_1).toNat * 9)).off + 5, none⟩ = some (.int .i64 ((rd_T121 l1 x5_1).f1.f2.f2)) ∧ w'.cell? ⟨(ad310.add ((x5_1).toNat * 9)).block, (ad310.add ((x5_1).toNat * 9)).off + 6, none⟩ = some (.int .i64 ((rd_T121 l1 x5_1).f1.f3.f0)) ∧ w'.cell? ⟨(ad310.add ((x5_1).toNat * 9)).block, (ad310.add ((x5_1).toNat * 9)).off + 7, none⟩ = some (.int .i64 ((rd_T121 l1 x5_1).f1.f3.f1)) ∧ w'.cell? ⟨(ad310.add ((x5_1).toNat * 9)).block, (ad310.add ((x5_1).toNat * 9)).off + 8, none⟩ = some (.int .i64 ((rd_T121 l1 x5_1).f1.f3.f2))) (ds := []) #[false, false, false, false, false, false, false, false, false, false] (by kernel_rfl) rfl rfl ⟨(bc hw309_0), (bc hw309_1), (bc hw309_2), (bc hw309_3), (bc hw309_4), (bc hw309_5), (bc hw309_6), (bc hw309_7), (bc hw309_8), (bc hw310_0), (bc hw310_1), (bc hw310_2), (bc hw310_3), (bc hw310_4), (bc hw310_5), (bc hw310_6), (bc hw310_7), (bc hw310_8)⟩ (fun hHeld => ?_); refine with_tabW laws_eqFaceS.tab6 laws_eqFaceS.bits6 (fun HT_ HW_ => ?_)
                generalize wr.drew = w9 at HB HR309_0 HR310_0 hx309_0 hx309_1 hx309_2 hx309_3 hx309_4 hx309_5 hx309_6 hx309_7 hx309_8 hx310_0 hx310_1 hx310_2 hx310_3 hx310_4 hx310_5 hx310_6 hx310_7 hx310_8 hHeld ⊢
                refine pure_ (i := 0) (N := some 17) (v := ?_) (a' := ?_) #[true, false, false, false, false, false, false, false, false, false] rfl rfl (any_of HT_.out (by kernel_rfl)) (fun _ _ _ h => h) (Or.inl ⟨by rfl, ?_⟩) ?_ ?_
                rotate_left
                · intro w'
                  go_simp
                  with_reducible rfl
                rotate_left
                · simp only [Act.put, List.setIfInBounds_toArray, List.set_cons_zero, List.set_cons_succ, i64_w, i32_w]
                  rfl
                refine pure_ (i := 1) (N := some 18) (v := ?_) (a' := ?_) #[true, true, false, false, false, false, false, false, false, false] rfl rfl (any_of HT_.out (by kernel_rfl)) (fun _ _ _ h => h) (Or.inl ⟨by rfl, ?_⟩) ?_ ?_
                rotate_left
                · intro w'
                  go_simp
                  with_reducible rfl
                rotate_left
                · simp only [Act.put, List.setIfInBounds_toArray, List.set_cons_zero, List.set_cons_succ, i64_w, i32_w]
                  rfl
                refine pure_ (i := 2) (N := some 19) (v := ?_) (a' := ?_) #[true, true, true, false, false, false, false, false, false, false] rfl rfl (any_of HT_.out (by kernel_rfl)) (fun _ _ _ h => h) (Or.inl ⟨by rfl, ?_⟩) ?_ ?_
                rotate_left
                · intro w'
                  go_simp
                  with_reducible rfl
                rotate_left
                · simp only [Act.put, List.setIfInBounds_toArray, List.set_cons_zero, List.set_cons_succ, i64_w, i32_w]
                  rfl
                refine pure_ (i := 4) (N := some 21) (v := ?_) (a' := ?_) #[true, true, true, false, true, false, false, false, false, false] rfl rfl (any_of HT_.out (by kernel_rfl)) (fun _ _ _ h => h) (Or.inl ⟨by rfl, ?_⟩) ?_ ?_
                rotate_left
                · intro w'
                  go_simp
                  with_reducible rfl
                rotate_left
                · simp only [Act.put, List.setIfInBounds_toArray, List.set_cons_zero, List.set_cons_succ, i64_w, i32_w]
                  rfl
                refine pure_ (i := 5) (N := some 22) (v := ?_) (a' := ?_) #[true, true, true, false, true, true, false, false, false, false] rfl rfl (any_of HT_.out (by kernel_rfl)) (fun _ _ _ h => h) (Or.inl ⟨by rfl, ?_⟩) ?_ ?_
                rotate_left
                · intro w'
                  go_simp
                  with_reducible rfl
                rotate_left
                · simp only [Act.put, List.setIfInBounds_toArray, List.set_cons_zero, List.set_cons_succ, i64_w, i32_w]
                  rfl
                refine pure_ (i := 6) (N := some 23) (v := ?_) (a' := ?_) #[true, true, true, false, true, true, true, false, false, false] rfl rfl (any_of HT_.out (by kernel_rfl)) (fun _ _ _ h => h) (Or.inl ⟨by rfl, ?_⟩) ?_ ?_
                rotate_left
                · intro w'
                  go_simp
                  with_reducible rfl
                rotate_left
                · simp only [Act.put, List.setIfInBounds_toArray, List.set_cons_zero, List.set_cons_succ, i64_w, i32_w]
                  rfl
                refine take_ (i := 3) (N := some 20) (v := ?_) (a' := ?_) #[true, true, true, true, true, true, true, false, false, false] rfl rfl (take_ofW HT_.out HW_.out (by kernel_rfl)) (fun _ _ _ h => h) (Or.inl ⟨by rfl, ?_⟩) hHeld ?_ ?_
                rotate_left
                · rintro w' ⟨s0, s1, s2, s3, s4, s5, s6, s7, s8, s9, s10, s11, s12, s13, s14, s15, s16, s17⟩
                  go_simp
                  with_reducible rfl
                rotate_left
                · simp only [Act.put, List.setIfInBounds_toArray, List.set_cons_zero, List.set_cons_succ, i64_w, i32_w]
                  rfl
                refine take_ (i := 7) (N := some 24) (v := ?_) (a' := ?_) #[true, true, true, true, true, true, true, true, false, false] rfl rfl (take_ofW HT_.out HW_.out (by kernel_rfl)) (fun _ _ _ h => h) (Or.inl ⟨by rfl, ?_⟩) hHeld ?_ ?_
                rotate_left
                · rintro w' ⟨s0, s1, s2, s3, s4, s5, s6, s7, s8, s9, s10, s11, s12, s13, s14, s15, s16, s17⟩
                  go_simp
                  with_reducible rfl
                rotate_left
                · simp only [Act.put, List.setIfInBounds_toArray, List.set_cons_zero, List.set_cons_succ, i64_w, i32_w]
                  rfl
                refine one_ (i := 8) (N := some 25) #[true, true, true, true, true, true, true, true, true, false] rfl rfl (one_of HT_.out (by kernel_rfl)) (by decide) (fun K hK => ?_)
                refine goes_ Try.func151 (by kernel_rfl) rfl #[.agg #[.slice _ ((rd_T121 l0 x5_1).f0).length c309_0, .int .i64 ((rd_T121 l0 x5_1).f1.f0), .bool ((rd_T121 l0 x5_1).f1.f1), .int .i64 ((rd_T121 l0 x5_1).f1.f2.f0), .int .i64 ((rd_T121 l0 x5_1).f1.f2.f1), .int .i64 ((rd_T121 l0 x5_1).f1.f2.f2), .int .i64 ((rd_T121 l0 x5_1).f1.f3.f0), .int .i64 ((rd_T121 l0 x5_1).f1.f3.f1), .int .i64 ((rd_T121 l0 x5_1).f1.f3.f2)], .agg #[.slice _ ((rd_T121 l1 x5_1).f0).length c310_0, .int .i64 ((rd_T121 l1 x5_1).f1.f0), .bool ((rd_T121 l1 x5_1).f1.f1), .int .i64 ((rd_T121 l1 x5_1).f1.f2.f0), .int .i64 ((rd_T121 l1 x5_1).f1.f2.f1), .int .i64 ((rd_T121 l1 x5_1).f1.f2.f2), .int .i64 ((rd_T121 l1 x5_1).f1.f3.f0), .int .i64 ((rd_T121 l1 x5_1).f1.f3.f1), .int .i64 ((rd_T121 l1 x5_1).f1.f3.f2)]] (by rfl) rfl rfl (by (try simp only [List.map_toArray, List.map_cons, List.map_nil]); first | done | rfl | (simp only [List.length_drop, List.length_take]; rfl)) ?_
                with_reducible refine (laws_eqFace.calls k1 _ _ ((rd_T121 l0 x5_1).f0) ((rd_T121 l0 x5_1).f1.f0) ((rd_T121 l0 x5_1).f1.f1) ((rd_T121 l0 x5_1).f1.f2.f0) ((rd_T121 l0 x5_1).f1.f2.f1) ((rd_T121 l0 x5_1).f1.f2.f2) ((rd_T121 l0 x5_1).f1.f3.f0) ((rd_T121 l0 x5_1).f1.f3.f1) ((rd_T121 l0 x5_1).f1.f3.f2) _ _ ((rd_T121 l1 x5_1).f0) ((rd_T121 l1 x5_1).f1.f0) ((rd_T121 l1 x5_1).f1.f1) ((rd_T121 l1 x5_1).f1.f2.f0) ((rd_T121 l1 x5_1).f1.f2.f1) ((rd_T121 l1 x5_1).f1.f2.f2) ((rd_T121 l1 x5_1).f1.f3.f0) ((rd_T121 l1 x5_1).f1.f3.f1) ((rd_T121 l1 x5_1).f1.f3.f2) true _ ?side1 ?side2 ?side3 ?side4 A7.out).mono ?_
                (case side1 => exact sd HR309_0)
                (case side2 => exact HC309_0.out)
                (case side3 => exact sd HR310_0)
                (case side4 => exact HC310_0.out)
                rintro e w10 ⟨rfl, hb⟩
                refine ⟨_, rfl, ?_⟩
                replace HB := bs hb
                (try clear hb)
                (try clear hb2)
                (try clear hk)
                (try clear hi)
                refine hK.out _ _ ⟨(bc hw309_0), (bc hw309_1), (bc hw309_2), (bc hw309_3), (bc hw309_4), (bc hw309_5), (bc hw309_6), (bc hw309_7), (bc hw309_8), (bc hw310_0), (bc hw310_1), (bc hw310_2), (bc hw310_3), (bc hw310_4), (bc hw310_5), (bc hw310_6), (bc hw310_7), (bc hw310_8)⟩ (fun hHeld => ?_)
                clear hK K
                refine norm_ (a' := ?_) ?_ ?_
                rotate_left
                · show Act.put _ (some 25) _ = _
                  simp only [Act.put, List.setIfInBounds_toArray, List.set_cons_zero, List.set_cons_succ, i64_w, i32_w]
                  rfl
                refine pure_ (i := 9) (N := some 26) (v := ?_) (a' := ?_) #[true, true, true, true, true, true, true, true, true, true] rfl rfl (any_of HT_.out (by kernel_rfl)) (fun _ _ _ h => h) (Or.inl ⟨by rfl, ?_⟩) ?_ ?_
                rotate_left
                · intro w'
                  go_simp
                  with_reducible rfl
                rotate_left
                · simp only [Act.put, List.setIfInBounds_toArray, List.set_cons_zero, List.set_cons_succ, i64_w, i32_w]
                  rfl
                refine done_ (done_of HT_.out (by kernel_rfl)) ?_
                try go_wp2
                go_roundg k1
                case measure => have := HK1.out; omega
                case rel => exact ⟨(wrap64 (x5_1 + 1)), (by first | rfl | (simp; done) | (simp [*]; done)), H', ⟨by have := HK1.out; omega⟩, ⟨bw⟩⟩
              · replace c8 := Bool.eq_false_iff.mpr c8
                subst c8
                rw [if_neg nf] at H
                obtain rfl := Option.some.inj H
                try go_wp2
                replace HB := Aside0.mk (below_drew1 HB.out)
                have p309 : 0 ≤ (x5_1 : Int) := od
                have q309 : x5_1 < (l0.length : Int) := od
                obtain ⟨ad309, A309_0, c309_0, e309, hx309_0, hx309_1, hx309_2, hx309_3, hx309_4, hx309_5, hx309_6, hx309_7, hx309_8, hl309_0, hi309_0⟩ := at_T121 HR0.out x5_1 p309 q309
                have hw309_8 := hx309_8
                have hw309_7 := hx309_7
                have hw309_6 := hx309_6
                have hw309_5 := hx309_5
                have hw309_4 := hx309_4
                have hw309_3 := hx309_3
                have hw309_2 := hx309_2
                have hw309_1 := hx309_1
                have hw309_0 := hx309_0
                cases e309
                replace hx309_0 := bc hx309_0
                replace hx309_1 := bc hx309_1
                replace hx309_2 := bc hx309_2
                replace hx309_3 := bc hx309_3
                replace hx309_4 := bc hx309_4
                replace hx309_5 := bc hx309_5
                replace hx309_6 := bc hx309_6
                replace hx309_7 := bc hx309_7
                replace hx309_8 := bc hx309_8
                have HR309_0 := Aside0.mk hi309_0
                have HC309_0 := Aside0.mk hl309_0
                clear hi309_0 hl309_0
                replace p309 := eq_true p309
                replace q309 := eq_true q309
                have p310 : 0 ≤ (x5_1 : Int) := od
                have q310 : x5_1 < (l1.length : Int) := od
                obtain ⟨ad310, A310_0, c310_0, e310, hx310_0, hx310_1, hx310_2, hx310_3, hx310_4, hx310_5, hx310_6, hx310_7, hx310_8, hl310_0, hi310_0⟩ := at_T121 HR1.out x5_1 p310 q310
                have hw310_8 := hx310_8
                have hw310_7 := hx310_7
                have hw310_6 := hx310_6
                have hw310_5 := hx310_5
                have hw310_4 := hx310_4
                have hw310_3 := hx310_3
                have hw310_2 := hx310_2
                have hw310_1 := hx310_1
                have hw310_0 := hx310_0
                cases e310
                replace hx310_0 := bc hx310_0
                replace hx310_1 := bc hx310_1
                replace hx310_2 := bc hx310_2
                replace hx310_3 := bc hx310_3
                replace hx310_4 := bc hx310_4
                replace hx310_5 := bc hx310_5
                replace hx310_6 := bc hx310_6
                replace hx310_7 := bc hx310_7
                replace hx310_8 := bc hx310_8
                have HR310_0 := Aside0.mk hi310_0
                have HC310_0 := Aside0.mk hl310_0
                clear hi310_0 hl310_0
                replace p310 := eq_true p310
                replace q310 := eq_true q310
                refine start_ (n := 10) (S := fun w' => w'.cell? (ad309.add ((x5_1).toNat * 9)) = some (.slice A309_0 ((rd_T121 l0 x5_1).f0).length c309_0) ∧ w'.cell? ⟨(ad309.add ((x5_1).toNat * 9)).block, (ad309.add ((x5_1).toNat * 9)).off + 1, none⟩ = some (.int .i64 ((rd_T121 l0 x5_1).f1.f0)) ∧ w'.cell? ⟨(ad309.add ((x5_1).toNat * 9)).block, (ad309.add ((x5_1).toNat * 9)).off + 2, none⟩ = some (.bool ((rd_T121 l0 x5_1).f1.f1)) ∧ w'.cell? ⟨(ad309.add ((x5_1).toNat * 9)).block, (ad309.add ((x5_1).toNat * 9)).off + 3, none⟩ = some (.int .i64 ((rd_T121 l0 x5_1).f1.f2.f0)) ∧ w'.cell? ⟨(ad309.add ((x5_1).toNat * 9)).block, (ad309.add ((x5_1).toNat * 9)).off + 4, none⟩ = some (.int .i64 ((rd_T121 l0 x5_1).f1.f2.f1)) ∧ w'.cell? ⟨(ad309.add ((x5_1).toNat * 9)).block, (ad309.add ((x5_1).toNat * 9)).off + 5, none⟩ = some (.int .i64 ((rd_T121 l0 x5_1).f1.f2.f2)) ∧ w'.cell? ⟨(ad309.add ((x5_1).toNat * 9)).block, (ad309.add ((x5_1).toNat * 9)).off + 6, none⟩ = some (.int .i64 ((rd_T121 l0 x5_1).f1.f3.f0)) ∧ w'.cell? ⟨(ad309.add ((x5_1).toNat * 9)).block, (ad309.add ((x5_1).toNat * 9)).off + 7, none⟩ = some (.int .i64 ((rd_T121 l0 x5_1).f1.f3.f1)) ∧ w'.cell? ⟨(ad309.add ((x5_1).toNat * 9)).block, (ad309.add ((x5_1).toNat * 9)).off + 8, none⟩ = some (.int .i64 ((rd_T121 l0 x5_1).f1.f3.f2)) ∧ w'.cell? (ad310.add ((x5_1).toNat * 9)) = some (.slice A310_0 ((rd_T121 l1 x5_1).f0).length c310_0) ∧ w'.cell? ⟨(ad310.add ((x5_1).toNat * 9)).block, (ad310.add ((x5_1).toNat * 9)).off + 1, none⟩ = some (.int .i64 ((rd_T121 l1 x5_1).f1.f0)) ∧ w'.cell? ⟨(ad310.add ((x5_1).toNat * 9)).block, (ad310.add ((x5_1).toNat * 9)).off + 2, none⟩ = some (.bool ((rd_T121 l1 x5_1).f1.f1)) ∧ w'.cell? ⟨(ad310.add ((x5_1).toNat * 9)).block, (ad310.add ((x5_1).toNat * 9)).off + 3, none⟩ = some (.int .i64 ((rd_T121 l1 x5_1).f1.f2.f0)) ∧ w'.cell? ⟨(ad310.add ((x5_1).toNat * 9)).block, (ad310.add ((x5_1).toNat * 9)).off + 4, none⟩ = some (.int .i64 ((rd_T121 l1 x5_1).f1.f2.f1)) ∧ w'.cell? ⟨(ad310.add ((x5_1).toNat * 9)).block, (ad310.add ((x5_1).toNat * 9)).off + 5, none⟩ = some (.int .i64 ((rd_T121 l1 x5_1).f1.f2.f2)) ∧ w'.cell? ⟨(ad310.add ((x5_1).toNat * 9)).block, (ad310.add ((x5_1).toNat * 9)).off + 6, none⟩ = some (.int .i64 ((rd_T121 l1 x5_1).f1.f3.f0)) ∧ w'.cell? ⟨(ad310.add ((x5_1).toNat * 9)).block, (ad310.add ((x5_1).toNat * 9)).off + 7, none⟩ = some (.int .i64 ((rd_T121 l1 x5_1).f1.f3.f1)) ∧ w'.cell? ⟨(ad310.add ((x5_1).toNat * 9)).block, (ad310.add ((x5_1).toNat * 9)).off + 8, none⟩ = some (.int .i64 ((rd_T121 l1 x5_1).f1.f3.f2))) (ds := []) #[false, false, false, false, false, false, false, false, false, false] (by kernel_rfl) rfl rfl ⟨(bc hw309_0), (bc hw309_1), (bc hw309_2), (bc hw309_3), (bc hw309_4), (bc hw309_5), (bc hw309_6), (bc hw309_7), (bc hw309_8), (bc hw310_0), (bc hw310_1), (bc hw310_2), (bc hw310_3), (bc hw310_4), (bc hw310_5), (bc hw310_6), (bc hw310_7), (bc hw310_8)⟩ (fun hHeld => ?_); refine with_tabW laws_eqFaceS.tab6 laws_eqFaceS.bits6 (fun HT_ HW_ => ?_)
                generalize wr.drew = w11 at HB HR309_0 HR310_0 hx309_0 hx309_1 hx309_2 hx309_3 hx309_4 hx309_5 hx309_6 hx309_7 hx309_8 hx310_0 hx310_1 hx310_2 hx310_3 hx310_4 hx310_5 hx310_6 hx310_7 hx310_8 hHeld ⊢
                refine pure_ (i := 0) (N := some 17) (v := ?_) (a' := ?_) #[true, false, false, false, false, false, false, false, false, false] rfl rfl (any_of HT_.out (by kernel_rfl)) (fun _ _ _ h => h) (Or.inl ⟨by rfl, ?_⟩) ?_ ?_
                rotate_left
                · intro w'
                  go_simp
                  with_reducible rfl
                rotate_left
                · simp only [Act.put, List.setIfInBounds_toArray, List.set_cons_zero, List.set_cons_succ, i64_w, i32_w]
                  rfl
                refine pure_ (i := 1) (N := some 18) (v := ?_) (a' := ?_) #[true, true, false, false, false, false, false, false, false, false] rfl rfl (any_of HT_.out (by kernel_rfl)) (fun _ _ _ h => h) (Or.inl ⟨by rfl, ?_⟩) ?_ ?_
                rotate_left
                · intro w'
                  go_simp
                  with_reducible rfl
                rotate_left
                · simp only [Act.put, List.setIfInBounds_toArray, List.set_cons_zero, List.set_cons_succ, i64_w, i32_w]
                  rfl
                refine pure_ (i := 2) (N := some 19) (v := ?_) (a' := ?_) #[true, true, true, false, false, false, false, false, false, false] rfl rfl (any_of HT_.out (by kernel_rfl)) (fun _ _ _ h => h) (Or.inl ⟨by rfl, ?_⟩) ?_ ?_
                rotate_left
                · intro w'
                  go_simp
                  with_reducible rfl
                rotate_left
                · simp only [Act.put, List.setIfInBounds_toArray, List.set_cons_zero, List.set_cons_succ, i64_w, i32_w]
                  rfl
                refine pure_ (i := 4) (N := some 21) (v := ?_) (a' := ?_) #[true, true, true, false, true, false, false, false, false, false] rfl rfl (any_of HT_.out (by kernel_rfl)) (fun _ _ _ h => h) (Or.inl ⟨by rfl, ?_⟩) ?_ ?_
                rotate_left
                · intro w'
                  go_simp
                  with_reducible rfl
                rotate_left
                · simp only [Act.put, List.setIfInBounds_toArray, List.set_cons_zero, List.set_cons_succ, i64_w, i32_w]
                  rfl
                refine pure_ (i := 5) (N := some 22) (v := ?_) (a' := ?_) #[true, true, true, false, true, true, false, false, false, false] rfl rfl (any_of HT_.out (by kernel_rfl)) (fun _ _ _ h => h) (Or.inl ⟨by rfl, ?_⟩) ?_ ?_
                rotate_left
                · intro w'
                  go_simp
                  with_reducible rfl
                rotate_left
                · simp only [Act.put, List.setIfInBounds_toArray, List.set_cons_zero, List.set_cons_succ, i64_w, i32_w]
                  rfl
                refine pure_ (i := 6) (N := some 23) (v := ?_) (a' := ?_) #[true, true, true, false, true, true, true, false, false, false] rfl rfl (any_of HT_.out (by kernel_rfl)) (fun _ _ _ h => h) (Or.inl ⟨by rfl, ?_⟩) ?_ ?_
                rotate_left
                · intro w'
                  go_simp
                  with_reducible rfl
                rotate_left
                · simp only [Act.put, List.setIfInBounds_toArray, List.set_cons_zero, List.set_cons_succ, i64_w, i32_w]
                  rfl
                refine take_ (i := 3) (N := some 20) (v := ?_) (a' := ?_) #[true, true, true, true, true, true, true, false, false, false] rfl rfl (take_ofW HT_.out HW_.out (by kernel_rfl)) (fun _ _ _ h => h) (Or.inl ⟨by rfl, ?_⟩) hHeld ?_ ?_
                rotate_left
                · rintro w' ⟨s0, s1, s2, s3, s4, s5, s6, s7, s8, s9, s10, s11, s12, s13, s14, s15, s16, s17⟩
                  go_simp
                  with_reducible rfl
                rotate_left
                · simp only [Act.put, List.setIfInBounds_toArray, List.set_cons_zero, List.set_cons_succ, i64_w, i32_w]
                  rfl
                refine take_ (i := 7) (N := some 24) (v := ?_) (a' := ?_) #[true, true, true, true, true, true, true, true, false, false] rfl rfl (take_ofW HT_.out HW_.out (by kernel_rfl)) (fun _ _ _ h => h) (Or.inl ⟨by rfl, ?_⟩) hHeld ?_ ?_
                rotate_left
                · rintro w' ⟨s0, s1, s2, s3, s4, s5, s6, s7, s8, s9, s10, s11, s12, s13, s14, s15, s16, s17⟩
                  go_simp
                  with_reducible rfl
                rotate_left
                · simp only [Act.put, List.setIfInBounds_toArray, List.set_cons_zero, List.set_cons_succ, i64_w, i32_w]
                  rfl
                refine one_ (i := 8) (N := some 25) #[true, true, true, true, true, true, true, true, true, false] rfl rfl (one_of HT_.out (by kernel_rfl)) (by decide) (fun K hK => ?_)
                refine goes_ Try.func151 (by kernel_rfl) rfl #[.agg #[.slice _ ((rd_T121 l0 x5_1).f0).length c309_0, .int .i64 ((rd_T121 l0 x5_1).f1.f0), .bool ((rd_T121 l0 x5_1).f1.f1), .int .i64 ((rd_T121 l0 x5_1).f1.f2.f0), .int .i64 ((rd_T121 l0 x5_1).f1.f2.f1), .int .i64 ((rd_T121 l0 x5_1).f1.f2.f2), .int .i64 ((rd_T121 l0 x5_1).f1.f3.f0), .int .i64 ((rd_T121 l0 x5_1).f1.f3.f1), .int .i64 ((rd_T121 l0 x5_1).f1.f3.f2)], .agg #[.slice _ ((rd_T121 l1 x5_1).f0).length c310_0, .int .i64 ((rd_T121 l1 x5_1).f1.f0), .bool ((rd_T121 l1 x5_1).f1.f1), .int .i64 ((rd_T121 l1 x5_1).f1.f2.f0), .int .i64 ((rd_T121 l1 x5_1).f1.f2.f1), .int .i64 ((rd_T121 l1 x5_1).f1.f2.f2), .int .i64 ((rd_T121 l1 x5_1).f1.f3.f0), .int .i64 ((rd_T121 l1 x5_1).f1.f3.f1), .int .i64 ((rd_T121 l1 x5_1).f1.f3.f2)]] (by rfl) rfl rfl (by (try simp only [List.map_toArray, List.map_cons, List.map_nil]); first | done | rfl | (simp only [List.length_drop, List.length_take]; rfl)) ?_
                with_reducible refine (laws_eqFace.calls k1 _ _ ((rd_T121 l0 x5_1).f0) ((rd_T121 l0 x5_1).f1.f0) ((rd_T121 l0 x5_1).f1.f1) ((rd_T121 l0 x5_1).f1.f2.f0) ((rd_T121 l0 x5_1).f1.f2.f1) ((rd_T121 l0 x5_1).f1.f2.f2) ((rd_T121 l0 x5_1).f1.f3.f0) ((rd_T121 l0 x5_1).f1.f3.f1) ((rd_T121 l0 x5_1).f1.f3.f2) _ _ ((rd_T121 l1 x5_1).f0) ((rd_T121 l1 x5_1).f1.f0) ((rd_T121 l1 x5_1).f1.f1) ((rd_T121 l1 x5_1).f1.f2.f0) ((rd_T121 l1 x5_1).f1.f2.f1) ((rd_T121 l1 x5_1).f1.f2.f2) ((rd_T121 l1 x5_1).f1.f3.f0) ((rd_T121 l1 x5_1).f1.f3.f1) ((rd_T121 l1 x5_1).f1.f3.f2) false _ ?side1 ?side2 ?side3 ?side4 A7.out).mono ?_
                (case side1 => exact sd HR309_0)
                (case side2 => exact HC309_0.out)
                (case side3 => exact sd HR310_0)
                (case side4 => exact HC310_0.out)
                rintro e w12 ⟨rfl, hb⟩
                refine ⟨_, rfl, ?_⟩
                replace HB := bs hb
                (try clear hb)
                (try clear hb2)
                (try clear hk)
                (try clear hi)
                refine hK.out _ _ ⟨(bc hw309_0), (bc hw309_1), (bc hw309_2), (bc hw309_3), (bc hw309_4), (bc hw309_5), (bc hw309_6), (bc hw309_7), (bc hw309_8), (bc hw310_0), (bc hw310_1), (bc hw310_2), (bc hw310_3), (bc hw310_4), (bc hw310_5), (bc hw310_6), (bc hw310_7), (bc hw310_8)⟩ (fun hHeld => ?_)
                clear hK K
                refine norm_ (a' := ?_) ?_ ?_
                rotate_left
                · show Act.put _ (some 25) _ = _
                  simp only [Act.put, List.setIfInBounds_toArray, List.set_cons_zero, List.set_cons_succ, i64_w, i32_w]
                  rfl
                refine pure_ (i := 9) (N := some 26) (v := ?_) (a' := ?_) #[true, true, true, true, true, true, true, true, true, true] rfl rfl (any_of HT_.out (by kernel_rfl)) (fun _ _ _ h => h) (Or.inl ⟨by rfl, ?_⟩) ?_ ?_
                rotate_left
                · intro w'
                  go_simp
                  with_reducible rfl
                rotate_left
                · simp only [Act.put, List.setIfInBounds_toArray, List.set_cons_zero, List.set_cons_succ, i64_w, i32_w]
                  rfl
                refine done_ (done_of HT_.out (by kernel_rfl)) ?_
                try go_wp2
                go_ret
                exact ⟨er, bw⟩
            · rw [if_neg c6] at H
              exact absurd H (by simp)
          · rw [if_neg c5] at H
            exact absurd H (by simp)
        · rw [if_neg c4] at H
          have c4b0 : decide (x5_1 < (l0.length : Int)) = false := decide_eq_false c4
          clear c4
          obtain rfl := Option.some.inj H
          go_wp2
          go_ret
          exact ⟨er, bw⟩
  · rw [if_neg c3] at H
    have c3b0 : ((l0.length : Int) == (l1.length : Int)) = false := beq_eq_false_iff_ne.mpr c3
    have c3b1 : ((l0.length : Int) != (l1.length : Int)) = true := bne_iff_ne.mpr c3
    have c3b2 : (l0.length == l1.length) = false := by first | simpa using c3 | (simp at c3 ⊢; omega)
    obtain rfl := Option.some.inj H
    go_enter Try.func98, Try.ntmps98
    go_wp2
    go_ret
    exact ⟨er, bw⟩

/-! ### laws_eqState: function 41 -/
def laws_eqState.f (k : Nat) (l0_0 : List (S130)) (l0_1 : List (S121)) (l0_2 : List Int) (l1_0 : List (S130)) (l1_1 : List (S121)) (l1_2 : List Int) : Option (Bool) := (laws_eqPointS.f k l0_0 l1_0).bind fun t314 => (if t314 = true then ((laws_eqFaceS.f k l0_1 l1_1).bind fun t315 => (if t315 = true then ((laws_eqInt64S.f k l0_2 l1_2).bind fun t316 => (if t316 = true then (some true) else (some false))) else (some false))) else (some false))
theorem laws_eqState.mono : ∀ a0 a1 a2 a3 a4 a5 k, LeO (laws_eqState.f k a0 a1 a2 a3 a4 a5) (laws_eqState.f (k + 1) a0 a1 a2 a3 a4 a5) := by
  intro a0 a1 a2 a3 a4 a5 k
  unfold laws_eqState.f
  repeat' first
      | (with_reducible exact laws_eqFaceS.mono _ _ _)
      | (with_reducible exact laws_eqInt64S.mono _ _ _)
      | (with_reducible exact laws_eqPointS.mono _ _ _)
      | (with_reducible exact LeO.refl _)
      | (with_reducible exact LeO.none _)
      | (with_reducible refine LeO.ite ?_ ?_)
      | (with_reducible refine LeO.bind ?_ (fun _ => ?_))
      | exact laws_eqFaceS.mono _ _ _
      | exact laws_eqInt64S.mono _ _ _
      | exact laws_eqPointS.mono _ _ _
      | exact LeO.none _
      | refine LeO.ite ?_ ?_
      | refine LeO.bind ?_ (fun _ => ?_)
set_option maxHeartbeats 8000000 in
set_option maxRecDepth 100000 in
theorem laws_eqState.calls (k : Nat) (A0_0 : Option Addr) (c0_0 : Nat) (l0_0 : List (S130)) (A0_1 : Option Addr) (c0_1 : Nat) (l0_1 : List (S121)) (A0_2 : Option Addr) (c0_2 : Nat) (l0_2 : List Int) (A1_0 : Option Addr) (c1_0 : Nat) (l1_0 : List (S130)) (A1_1 : Option Addr) (c1_1 : Nat) (l1_1 : List (S121)) (A1_2 : Option Addr) (c1_2 : Nat) (l1_2 : List Int) (r : Bool) (w : World) (hr0_0 : Kd.C k130 w A0_0 l0_0.length l0_0) (hc0_0 : l0_0.length ≤ c0_0) (hr0_1 : Kd.C k121 w A0_1 l0_1.length l0_1) (hc0_1 : l0_1.length ≤ c0_1) (hr0_2 : Kd.C (Kd.int .i64) w A0_2 l0_2.length l0_2) (hc0_2 : l0_2.length ≤ c0_2) (hr1_0 : Kd.C k130 w A1_0 l1_0.length l1_0) (hc1_0 : l1_0.length ≤ c1_0) (hr1_1 : Kd.C k121 w A1_1 l1_1.length l1_1) (hc1_1 : l1_1.length ≤ c1_1) (hr1_2 : Kd.C (Kd.int .i64) w A1_2 l1_2.length l1_2) (hc1_2 : l1_2.length ≤ c1_2) (h : laws_eqState.f k l0_0 l0_1 l0_2 l1_0 l1_1 l1_2 = some r) :
    Calls Try.prog 41 #[.agg #[.slice A0_0 l0_0.length c0_0, .slice A0_1 l0_1.length c0_1, .slice A0_2 l0_2.length c0_2], .agg #[.slice A1_0 l1_0.length c1_0, .slice A1_1 l1_1.length c1_1, .slice A1_2 l1_2.length c1_2]] w fun e w' => e = .returned (.bool r) ∧ Below w.heap.size w w' := by
  have hu65 := Try.underlying65
  have HR0_0 := Aside0.mk hr0_0
  have HC0_0 := Aside0.mk hc0_0
  clear hr0_0 hc0_0
  have HR0_1 := Aside0.mk hr0_1
  have HC0_1 := Aside0.mk hc0_1
  clear hr0_1 hc0_1
  have HR0_2 := Aside0.mk hr0_2
  have HC0_2 := Aside0.mk hc0_2
  clear hr0_2 hc0_2
  have HR1_0 := Aside0.mk hr1_0
  have HC1_0 := Aside0.mk hc1_0
  clear hr1_0 hc1_0
  have HR1_1 := Aside0.mk hr1_1
  have HC1_1 := Aside0.mk hc1_1
  clear hr1_1 hc1_1
  have HR1_2 := Aside0.mk hr1_2
  have HC1_2 := Aside0.mk hc1_2
  clear hr1_2 hc1_2
  have HB := Aside0.mk (Below.refl w.heap.size w)
  have H : ((laws_eqPointS.f k l0_0 l1_0).bind fun t314 => (if t314 = true then ((laws_eqFaceS.f k l0_1 l1_1).bind fun t315 => (if t315 = true then ((laws_eqInt64S.f k l0_2 l1_2).bind fun t316 => (if t316 = true then (some true) else (some false))) else (some false))) else (some false))) = some r := h
  clear h
  replace H := Option.bind_eq_some_iff.mp H
  obtain ⟨t314, A30, H⟩ := H
  replace H : (if t314 = true then ((laws_eqFaceS.f k l0_1 l1_1).bind fun t315 => (if t315 = true then ((laws_eqInt64S.f k l0_2 l1_2).bind fun t316 => (if t316 = true then (some true) else (some false))) else (some false))) else (some false)) = some r := H
  have A3 := Aside0.mk A30
  clear A30
  by_cases c4 : t314 = true
  · subst c4
    rw [if_pos rfl] at H
    replace H := Option.bind_eq_some_iff.mp H
    obtain ⟨t315, A50, H⟩ := H
    replace H : (if t315 = true then ((laws_eqInt64S.f k l0_2 l1_2).bind fun t316 => (if t316 = true then (some true) else (some false))) else (some false)) = some r := H
    have A5 := Aside0.mk A50
    clear A50
    by_cases c6 : t315 = true
    · subst c6
      rw [if_pos rfl] at H
      replace H := Option.bind_eq_some_iff.mp H
      obtain ⟨t316, A70, H⟩ := H
      replace H : (if t316 = true then (some true) else (some false)) = some r := H
      have A7 := Aside0.mk A70
      clear A70
      by_cases c8 : t316 = true
      · subst c8
        rw [if_pos rfl] at H
        obtain rfl := Option.some.inj H
        go_enter Try.func41, Try.ntmps41
        go_wp2_with (first | ((with_reducible refine gate_dst (N := 2) rfl ?_); refine bx #[.slice A0_0 l0_0.length c0_0, .slice A0_1 l0_1.length c0_1, .slice A0_2 l0_2.length c0_2] 65 ?_; intro gb312 hg w9 hbox hb; have BK312 := Aside0.mk hbox; have GW312 := bg hg; have GE312 := bg hg; replace HB := bs hb; clear hb hbox hg) | ((with_reducible refine gate_dst (N := 3) rfl ?_); refine bx #[.slice A1_0 l1_0.length c1_0, .slice A1_1 l1_1.length c1_1, .slice A1_2 l1_2.length c1_2] 65 ?_; intro gb313 hg w10 hbox hb; have BK313 := Aside0.mk hbox; have GW313 := bg hg; have GE313 := bg hg; have NB312_313 := bl BK312 hg; have NB313_312 := bv BK312 hg; replace BK312 := bb BK312 hb; replace HB := bs hb; clear hb hbox hg; have hnb11 := NB312_313.out; have hnc11 := NB313_312.out; obtain ⟨z12_0, z12_1, z12_2, y12_0, y12_1, y12_2⟩ := bq3 BK312; obtain ⟨z13_0, z13_1, z13_2, y13_0, y13_1, y13_2⟩ := bq3 BK313) | ((with_reducible refine gate_callee (f := 97) rfl ?_); refine gl (some 9) Try.func97 #[.slice A0_0 l0_0.length c0_0, .slice A1_0 l1_0.length c1_0] ?_; (with_reducible refine (laws_eqPointS.calls k _ _ l0_0 _ _ l1_0 true _ ?side1 ?side2 ?side3 ?side4 A3.out).mono ?_); (case side1 => exact sd HR0_0); (case side2 => exact HC0_0.out); (case side3 => exact sd HR1_0); (case side4 => exact HC1_0.out); rintro e w14 ⟨rfl, hb⟩; refine ⟨_, rfl, ?_⟩; replace BK312 := bb BK312 hb; replace BK313 := bb BK313 hb; replace HB := bs hb; (try clear hb); (try clear hb2); (try clear hk); (try clear hi); obtain ⟨z15_0, z15_1, z15_2, y15_0, y15_1, y15_2⟩ := bq3 BK312; obtain ⟨z16_0, z16_1, z16_2, y16_0, y16_1, y16_2⟩ := bq3 BK313) | ((with_reducible refine gate_callee (f := 98) rfl ?_); refine gl (some 15) Try.func98 #[.slice A0_1 l0_1.length c0_1, .slice A1_1 l1_1.length c1_1] ?_; (with_reducible refine (laws_eqFaceS.calls k _ _ l0_1 _ _ l1_1 true _ ?side1 ?side2 ?side3 ?side4 A5.out).mono ?_); (case side1 => exact sd HR0_1); (case side2 => exact HC0_1.out); (case side3 => exact sd HR1_1); (case side4 => exact HC1_1.out); rintro e w17 ⟨rfl, hb⟩; refine ⟨_, rfl, ?_⟩; replace BK312 := bb BK312 hb; replace BK313 := bb BK313 hb; replace HB := bs hb; (try clear hb); (try clear hb2); (try clear hk); (try clear hi); obtain ⟨z18_0, z18_1, z18_2, y18_0, y18_1, y18_2⟩ := bq3 BK312; obtain ⟨z19_0, z19_1, z19_2, y19_0, y19_1, y19_2⟩ := bq3 BK313) | ((with_reducible refine gate_callee (f := 25) rfl ?_); refine gl (some 21) Try.func25 #[.slice A0_2 l0_2.length c0_2, .slice A1_2 l1_2.length c1_2] ?_; (with_reducible refine (laws_eqInt64S.calls k _ _ l0_2 _ _ l1_2 true _ ?side1 ?side2 ?side3 ?side4 A7.out).mono ?_); (case side1 => exact sd HR0_2); (case side2 => exact HC0_2.out); (case side3 => exact sd HR1_2); (case side4 => exact HC1_2.out); rintro e w' ⟨rfl, ⟨nd, rfl⟩⟩; refine ⟨_, rfl, ?_⟩))
        go_ret
        exact ⟨er, bw⟩
      · replace c8 := Bool.eq_false_iff.mpr c8
        subst c8
        rw [if_neg nf] at H
        obtain rfl := Option.some.inj H
        go_enter Try.func41, Try.ntmps41
        go_wp2_with (first | ((with_reducible refine gate_dst (N := 2) rfl ?_); refine bx #[.slice A0_0 l0_0.length c0_0, .slice A0_1 l0_1.length c0_1, .slice A0_2 l0_2.length c0_2] 65 ?_; intro gb312 hg w20 hbox hb; have BK312 := Aside0.mk hbox; have GW312 := bg hg; have GE312 := bg hg; replace HB := bs hb; clear hb hbox hg) | ((with_reducible refine gate_dst (N := 3) rfl ?_); refine bx #[.slice A1_0 l1_0.length c1_0, .slice A1_1 l1_1.length c1_1, .slice A1_2 l1_2.length c1_2] 65 ?_; intro gb313 hg w21 hbox hb; have BK313 := Aside0.mk hbox; have GW313 := bg hg; have GE313 := bg hg; have NB312_313 := bl BK312 hg; have NB313_312 := bv BK312 hg; replace BK312 := bb BK312 hb; replace HB := bs hb; clear hb hbox hg; have hnb22 := NB312_313.out; have hnc22 := NB313_312.out; obtain ⟨z23_0, z23_1, z23_2, y23_0, y23_1, y23_2⟩ := bq3 BK312; obtain ⟨z24_0, z24_1, z24_2, y24_0, y24_1, y24_2⟩ := bq3 BK313) | ((with_reducible refine gate_callee (f := 97) rfl ?_); refine gl (some 9) Try.func97 #[.slice A0_0 l0_0.length c0_0, .slice A1_0 l1_0.length c1_0] ?_; (with_reducible refine (laws_eqPointS.calls k _ _ l0_0 _ _ l1_0 true _ ?side1 ?side2 ?side3 ?side4 A3.out).mono ?_); (case side1 => exact sd HR0_0); (case side2 => exact HC0_0.out); (case side3 => exact sd HR1_0); (case side4 => exact HC1_0.out); rintro e w25 ⟨rfl, hb⟩; refine ⟨_, rfl, ?_⟩; replace BK312 := bb BK312 hb; replace BK313 := bb BK313 hb; replace HB := bs hb; (try clear hb); (try clear hb2); (try clear hk); (try clear hi); obtain ⟨z26_0, z26_1, z26_2, y26_0, y26_1, y26_2⟩ := bq3 BK312; obtain ⟨z27_0, z27_1, z27_2, y27_0, y27_1, y27_2⟩ := bq3 BK313) | ((with_reducible refine gate_callee (f := 98) rfl ?_); refine gl (some 15) Try.func98 #[.slice A0_1 l0_1.length c0_1, .slice A1_1 l1_1.length c1_1] ?_; (with_reducible refine (laws_eqFaceS.calls k _ _ l0_1 _ _ l1_1 true _ ?side1 ?side2 ?side3 ?side4 A5.out).mono ?_); (case side1 => exact sd HR0_1); (case side2 => exact HC0_1.out); (case side3 => exact sd HR1_1); (case side4 => exact HC1_1.out); rintro e w28 ⟨rfl, hb⟩; refine ⟨_, rfl, ?_⟩; replace BK312 := bb BK312 hb; replace BK313 := bb BK313 hb; replace HB := bs hb; (try clear hb); (try clear hb2); (try clear hk); (try clear hi); obtain ⟨z29_0, z29_1, z29_2, y29_0, y29_1, y29_2⟩ := bq3 BK312; obtain ⟨z30_0, z30_1, z30_2, y30_0, y30_1, y30_2⟩ := bq3 BK313) | ((with_reducible refine gate_callee (f := 25) rfl ?_); refine gl (some 21) Try.func25 #[.slice A0_2 l0_2.length c0_2, .slice A1_2 l1_2.length c1_2] ?_; (with_reducible refine (laws_eqInt64S.calls k _ _ l0_2 _ _ l1_2 false _ ?side1 ?side2 ?side3 ?side4 A7.out).mono ?_); (case side1 => exact sd HR0_2); (case side2 => exact HC0_2.out); (case side3 => exact sd HR1_2); (case side4 => exact HC1_2.out); rintro e w' ⟨rfl, ⟨nd, rfl⟩⟩; refine ⟨_, rfl, ?_⟩))
        go_ret
        exact ⟨er, bw⟩
    · replace c6 := Bool.eq_false_iff.mpr c6
      subst c6
      rw [if_neg nf] at H
      obtain rfl := Option.some.inj H
      go_enter Try.func41, Try.ntmps41
      go_wp2_with (first | ((with_reducible refine gate_dst (N := 2) rfl ?_); refine bx #[.slice A0_0 l0_0.length c0_0, .slice A0_1 l0_1.length c0_1, .slice A0_2 l0_2.length c0_2] 65 ?_; intro gb312 hg w31 hbox hb; have BK312 := Aside0.mk hbox; have GW312 := bg hg; have GE312 := bg hg; replace HB := bs hb; clear hb hbox hg) | ((with_reducible refine gate_dst (N := 3) rfl ?_); refine bx #[.slice A1_0 l1_0.length c1_0, .slice A1_1 l1_1.length c1_1, .slice A1_2 l1_2.length c1_2] 65 ?_; intro gb313 hg w32 hbox hb; have BK313 := Aside0.mk hbox; have GW313 := bg hg; have GE313 := bg hg; have NB312_313 := bl BK312 hg; have NB313_312 := bv BK312 hg; replace BK312 := bb BK312 hb; replace HB := bs hb; clear hb hbox hg; have hnb33 := NB312_313.out; have hnc33 := NB313_312.out; obtain ⟨z34_0, z34_1, z34_2, y34_0, y34_1, y34_2⟩ := bq3 BK312; obtain ⟨z35_0, z35_1, z35_2, y35_0, y35_1, y35_2⟩ := bq3 BK313) | ((with_reducible refine gate_callee (f := 97) rfl ?_); refine gl (some 9) Try.func97 #[.slice A0_0 l0_0.length c0_0, .slice A1_0 l1_0.length c1_0] ?_; (with_reducible refine (laws_eqPointS.calls k _ _ l0_0 _ _ l1_0 true _ ?side1 ?side2 ?side3 ?side4 A3.out).mono ?_); (case side1 => exact sd HR0_0); (case side2 => exact HC0_0.out); (case side3 => exact sd HR1_0); (case side4 => exact HC1_0.out); rintro e w36 ⟨rfl, hb⟩; refine ⟨_, rfl, ?_⟩; replace BK312 := bb BK312 hb; replace BK313 := bb BK313 hb; replace HB := bs hb; (try clear hb); (try clear hb2); (try clear hk); (try clear hi); obtain ⟨z37_0, z37_1, z37_2, y37_0, y37_1, y37_2⟩ := bq3 BK312; obtain ⟨z38_0, z38_1, z38_2, y38_0, y38_1, y38_2⟩ := bq3 BK313) | ((with_reducible refine gate_callee (f := 98) rfl ?_); refine gl (some 15) Try.func98 #[.slice A0_1 l0_1.length c0_1, .slice A1_1 l1_1.length c1_1] ?_; (with_reducible refine (laws_eqFaceS.calls k _ _ l0_1 _ _ l1_1 false _ ?side1 ?side2 ?side3 ?side4 A5.out).mono ?_); (case side1 => exact sd HR0_1); (case side2 => exact HC0_1.out); (case side3 => exact sd HR1_1); (case side4 => exact HC1_1.out); rintro e w39 ⟨rfl, hb⟩; refine ⟨_, rfl, ?_⟩; replace BK312 := bb BK312 hb; replace BK313 := bb BK313 hb; replace HB := bs hb; (try clear hb); (try clear hb2); (try clear hk); (try clear hi)))
      go_ret
      exact ⟨er, bw⟩
  · replace c4 := Bool.eq_false_iff.mpr c4
    subst c4
    rw [if_neg nf] at H
    obtain rfl := Option.some.inj H
    go_enter Try.func41, Try.ntmps41
    go_wp2_with (first | ((with_reducible refine gate_dst (N := 2) rfl ?_); refine bx #[.slice A0_0 l0_0.length c0_0, .slice A0_1 l0_1.length c0_1, .slice A0_2 l0_2.length c0_2] 65 ?_; intro gb312 hg w40 hbox hb; have BK312 := Aside0.mk hbox; have GW312 := bg hg; have GE312 := bg hg; replace HB := bs hb; clear hb hbox hg) | ((with_reducible refine gate_dst (N := 3) rfl ?_); refine bx #[.slice A1_0 l1_0.length c1_0, .slice A1_1 l1_1.length c1_1, .slice A1_2 l1_2.length c1_2] 65 ?_; intro gb313 hg w41 hbox hb; have BK313 := Aside0.mk hbox; have GW313 := bg hg; have GE313 := bg hg; have NB312_313 := bl BK312 hg; have NB313_312 := bv BK312 hg; replace BK312 := bb BK312 hb; replace HB := bs hb; clear hb hbox hg; have hnb42 := NB312_313.out; have hnc42 := NB313_312.out; obtain ⟨z43_0, z43_1, z43_2, y43_0, y43_1, y43_2⟩ := bq3 BK312; obtain ⟨z44_0, z44_1, z44_2, y44_0, y44_1, y44_2⟩ := bq3 BK313) | ((with_reducible refine gate_callee (f := 97) rfl ?_); refine gl (some 9) Try.func97 #[.slice A0_0 l0_0.length c0_0, .slice A1_0 l1_0.length c1_0] ?_; (with_reducible refine (laws_eqPointS.calls k _ _ l0_0 _ _ l1_0 false _ ?side1 ?side2 ?side3 ?side4 A3.out).mono ?_); (case side1 => exact sd HR0_0); (case side2 => exact HC0_0.out); (case side3 => exact sd HR1_0); (case side4 => exact HC1_0.out); rintro e w45 ⟨rfl, hb⟩; refine ⟨_, rfl, ?_⟩; replace BK312 := bb BK312 hb; replace BK313 := bb BK313 hb; replace HB := bs hb; (try clear hb); (try clear hb2); (try clear hk); (try clear hi)))
    go_ret
    exact ⟨er, bw⟩

end Go.Proofs.Yteadienaeapaeaa.PC
