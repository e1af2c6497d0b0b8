-- Made by a program of this session (myprint.py) out of the translation.
import Derived.Test.YteadienaeapaeaaZssPTx0
import Derived.Test.YteadienaeapaeaaZssPTx1
import Derived.Test.YteadienaeapaeaaZssPTx9
import Derived.Test.YteadienaeapaeaaZssShort
namespace Go.Proofs.Yteadienaeapaeaa.PT
open Go.Proofs.Yteadienaeapaeaa.Short
open Go.Proofs.Yteadienaeapaeaa.Dyn
open Go.RowKit Go.Proofs.YteadienaeapaeaaW.PrintWords Go.Proofs.YteadienaeapaeaaW.PrintLast Go.Proofs.YteadienaeapaeaaW.PrintMore
attribute [local go_sem] max2_int min2_int max_two min_two max_three min_three max_four min_four   -- for this text's walks alone
set_option linter.unusedVariables false
set_option linter.unusedSimpArgs false

/-! ### laws_eqFaceS: function 98 -/
def laws_eqFaceS.l0 : Nat → List (S121) → List (S121) → Int → Option (Bool)
  | 0, _, _, _ => none
  | k + 1, x0, x1, x5 => if x5 < (x0.length : Int) then (if 0 ≤ x5 then (if x5 < (x1.length : Int) then ((laws_eqFace.f k ((rd_T121 x0 x5).f0) ((rd_T121 x0 x5).f1.f0) ((rd_T121 x0 x5).f1.f1) ((rd_T121 x0 x5).f1.f2.f0) ((rd_T121 x0 x5).f1.f2.f1) ((rd_T121 x0 x5).f1.f2.f2) ((rd_T121 x0 x5).f1.f3.f0) ((rd_T121 x0 x5).f1.f3.f1) ((rd_T121 x0 x5).f1.f3.f2) ((rd_T121 x1 x5).f0) ((rd_T121 x1 x5).f1.f0) ((rd_T121 x1 x5).f1.f1) ((rd_T121 x1 x5).f1.f2.f0) ((rd_T121 x1 x5).f1.f2.f1) ((rd_T121 x1 x5).f1.f2.f2) ((rd_T121 x1 x5).f1.f3.f0) ((rd_T121 x1 x5).f1.f3.f1) ((rd_T121 x1 x5).f1.f3.f2)).bind fun t327 => (if t327 = true then (laws_eqFaceS.l0 k x0 x1 (wrap64 (x5 + 1))) else (some false))) else (none)) else (none)) else (some true)
def laws_eqFaceS.f (k : Nat) (l0 : List (S121)) (l1 : List (S121)) : Option (Bool) := if (l0.length : Int) = (l1.length : Int) then (laws_eqFaceS.l0 k l0 l1 0) else (some false)
theorem laws_eqFaceS.mono_l : ∀ k, (∀ y0 y1 y2, LeO (laws_eqFaceS.l0 k y0 y1 y2) (laws_eqFaceS.l0 (k + 1) y0 y1 y2))
  | 0 => fun _ _ _ r h => by simp [laws_eqFaceS.l0] at h
  | k + 1 => by
    have ih0 := laws_eqFaceS.mono_l k
    · intro y0 y1 y2
      unfold laws_eqFaceS.l0
      repeat' first
      | (with_reducible exact ih0 _ _ _)
      | (with_reducible exact laws_eqFace.mono _ _ _ _ _ _ _ _ _ _ _ _ _ _ _ _ _ _ _)
      | (with_reducible exact LeO.refl _)
      | (with_reducible exact LeO.none _)
      | (with_reducible refine LeO.ite ?_ ?_)
      | (with_reducible refine LeO.bind ?_ (fun _ => ?_))
      | exact ih0 _ _ _
      | exact laws_eqFace.mono _ _ _ _ _ _ _ _ _ _ _ _ _ _ _ _ _ _ _
      | exact LeO.none _
      | refine LeO.ite ?_ ?_
      | refine LeO.bind ?_ (fun _ => ?_)
theorem laws_eqFaceS.mono : ∀ a0 a1 k, LeO (laws_eqFaceS.f k a0 a1) (laws_eqFaceS.f (k + 1) a0 a1) := by
  intro a0 a1 k
  have ih0 := laws_eqFaceS.mono_l k
  unfold laws_eqFaceS.f
  repeat' first
      | (with_reducible exact ih0 _ _ _)
      | (with_reducible exact laws_eqFace.mono _ _ _ _ _ _ _ _ _ _ _ _ _ _ _ _ _ _ _)
      | (with_reducible exact LeO.refl _)
      | (with_reducible exact LeO.none _)
      | (with_reducible refine LeO.ite ?_ ?_)
      | (with_reducible refine LeO.bind ?_ (fun _ => ?_))
      | exact ih0 _ _ _
      | exact laws_eqFace.mono _ _ _ _ _ _ _ _ _ _ _ _ _ _ _ _ _ _ _
      | exact LeO.none _
      | refine LeO.ite ?_ ?_
      | refine LeO.bind ?_ (fun _ => ?_)
def laws_eqFaceS.T6 : Bool × List (List Nat × List Nat) := (true, [([], []), ([], []), ([0, 1], [0, 1]), ([2], [2]), ([], []), ([], []), ([4, 5], [4, 5]), ([6], [6]), ([3, 7], [3, 7]), ([8], [8])])
def laws_eqFaceS.B6 : List Nat := [0, 0, 3, 7, 0, 0, 48, 112, 255, 511]
theorem laws_eqFaceS.tab6 : rtab .any (opsOf Try.f98 6) = laws_eqFaceS.T6 := by kernel_rfl
theorem laws_eqFaceS.bits6 : waitsOk laws_eqFaceS.T6.2 laws_eqFaceS.B6 = true := by kernel_rfl
set_option maxHeartbeats 8000000 in
set_option maxRecDepth 100000 in
theorem laws_eqFaceS.calls (k : Nat) (A0 : Option Addr) (c0 : Nat) (l0 : List (S121)) (A1 : Option Addr) (c1 : Nat) (l1 : List (S121)) (r : Bool) (w : World) (hr0 : Kd.C k121 w A0 l0.length l0) (hc0 : l0.length ≤ c0) (hr1 : Kd.C k121 w A1 l1.length l1) (hc1 : l1.length ≤ c1) (h : laws_eqFaceS.f k l0 l1 = some r) :
    Calls Try.prog 98 #[.slice A0 l0.length c0, .slice A1 l1.length c1] w fun e w' => e = .returned (.bool r) ∧ Below w.heap.size w w' := by
  have hu121 := Try.underlying121
  have HR0 := Aside0.mk hr0
  have HC0 := Aside0.mk hc0
  clear hr0 hc0
  have HR1 := Aside0.mk hr1
  have HC1 := Aside0.mk hc1
  clear hr1 hc1
  have HB := Aside0.mk (Below.refl w.heap.size w)
  have H : (if (l0.length : Int) = (l1.length : Int) then (laws_eqFaceS.l0 k l0 l1 0) else (some false)) = some r := h
  clear h
  by_cases c3 : (l0.length : Int) = (l1.length : Int)
  · rw [if_pos c3] at H
    have c3b0 : ((l0.length : Int) == (l1.length : Int)) = true := beq_iff_eq.mpr c3
    have c3b1 : ((l0.length : Int) != (l1.length : Int)) = false := bne_eq_false_iff_eq.mpr c3
    have c3b2 : (l0.length == l1.length) = true := by first | simpa using c3 | (simp at c3 ⊢; omega)
    clear c3
    have H' := Aside0.mk H
    clear H
    go_enter Try.func98, Try.ntmps98
    go_wp2
    go_loopg [5] k (fun kq v5 w' => ∃ (x5_1 : Int), v5 = .int .i64 x5_1 ∧ Aside0 (laws_eqFaceS.l0 kq l0 l1 x5_1 = some r) ∧ Aside0 (kq ≤ k) ∧ Aside0 (Below w.heap.size w w'))
    case atStart => exact ⟨(0), (by first | rfl | (simp; done) | (simp [*]; done)), H', ⟨Nat.le_refl _⟩, ⟨bw⟩⟩
    case round =>
      clear H'
      try clear c1
      try clear p2
      try clear c3
      try clear c3b0
      try clear c3b1
      try clear c3b2
      obtain ⟨x5_1, rfl, HA, HK1, HB⟩ := hrel
      cases gk with
      | zero => exact absurd HA.out (by simp [laws_eqFaceS.l0])
      | succ k1 =>
        have H := HA.out
        clear HA
        simp only [laws_eqFaceS.l0] at H
        by_cases c4 : x5_1 < (l0.length : Int)
        · rw [if_pos c4] at H
          have c4b0 : decide (x5_1 < (l0.length : Int)) = true := decide_eq_true c4
          clear c4
          by_cases c5 : 0 ≤ x5_1
          · rw [if_pos c5] at H
            have c5b0 : decide (0 ≤ x5_1) = true := decide_eq_true c5
            clear c5
            by_cases c6 : x5_1 < (l1.length : Int)
            · rw [if_pos c6] at H
              have c6b0 : decide (x5_1 < (l1.length : Int)) = true := decide_eq_true c6
              clear c6
              replace H := Option.bind_eq_some_iff.mp H
              obtain ⟨t327, A70, H⟩ := H
              replace H : (if t327 = true then (laws_eqFaceS.l0 k1 l0 l1 (wrap64 (x5_1 + 1))) else (some false)) = some r := H
              have A7 := Aside0.mk A70
              clear A70
              by_cases c8 : t327 = true
              · subst c8
                rw [if_pos rfl] at H
                have H' := Aside0.mk H
                clear H
                try go_wp2
                replace HB := Aside0.mk (below_drew1 HB.out)
                have p325 : 0 ≤ (x5_1 : Int) := od
                have q325 : x5_1 < (l0.length : Int) := od
                obtain ⟨ad325, A325_0, c325_0, e325, hx325_0, hx325_1, hx325_2, hx325_3, hx325_4, hx325_5, hx325_6, hx325_7, hx325_8, hl325_0, hi325_0⟩ := at_T121 HR0.out x5_1 p325 q325
                have hw325_8 := hx325_8
                have hw325_7 := hx325_7
                have hw325_6 := hx325_6
                have hw325_5 := hx325_5
                have hw325_4 := hx325_4
                have hw325_3 := hx325_3
                have hw325_2 := hx325_2
                have hw325_1 := hx325_1
                have hw325_0 := hx325_0
                cases e325
                replace hx325_0 := bc hx325_0
                replace hx325_1 := bc hx325_1
                replace hx325_2 := bc hx325_2
                replace hx325_3 := bc hx325_3
                replace hx325_4 := bc hx325_4
                replace hx325_5 := bc hx325_5
                replace hx325_6 := bc hx325_6
                replace hx325_7 := bc hx325_7
                replace hx325_8 := bc hx325_8
                have HR325_0 := Aside0.mk hi325_0
                have HC325_0 := Aside0.mk hl325_0
                clear hi325_0 hl325_0
                replace p325 := eq_true p325
                replace q325 := eq_true q325
                have p326 : 0 ≤ (x5_1 : Int) := od
                have q326 : x5_1 < (l1.length : Int) := od
                obtain ⟨ad326, A326_0, c326_0, e326, hx326_0, hx326_1, hx326_2, hx326_3, hx326_4, hx326_5, hx326_6, hx326_7, hx326_8, hl326_0, hi326_0⟩ := at_T121 HR1.out x5_1 p326 q326
                have hw326_8 := hx326_8
                have hw326_7 := hx326_7
                have hw326_6 := hx326_6
                have hw326_5 := hx326_5
                have hw326_4 := hx326_4
                have hw326_3 := hx326_3
                have hw326_2 := hx326_2
                have hw326_1 := hx326_1
                have hw326_0 := hx326_0
                cases e326
                replace hx326_0 := bc hx326_0
                replace hx326_1 := bc hx326_1
                replace hx326_2 := bc hx326_2
                replace hx326_3 := bc hx326_3
                replace hx326_4 := bc hx326_4
                replace hx326_5 := bc hx326_5
                replace hx326_6 := bc hx326_6
                replace hx326_7 := bc hx326_7
                replace hx326_8 := bc hx326_8
                have HR326_0 := Aside0.mk hi326_0
                have HC326_0 := Aside0.mk hl326_0
                clear hi326_0 hl326_0
                replace p326 := eq_true p326
                replace q326 := eq_true q326
                refine start_ (n := 10) (S := fun w' => w'.cell? (ad325.add ((x5_1).toNat * 9)) = some (.slice A325_0 ((rd_T121 l0 x5_1).f0).length c325_0) ∧ w'.cell? ⟨(ad325.add ((x5_1).toNat * 9)).block, (ad325.add ((x5_1).toNat * 9)).off + 1, none⟩ = some (.int .i64 ((rd_T121 l0 x5_1).f1.f0)) ∧ w'.cell? ⟨(ad325.add ((x5_1).toNat * 9)).block, (ad325.add ((x5_1).toNat * 9)).off + 2, none⟩ = some (.bool ((rd_T121 l0 x5_1).f1.f1)) ∧ w'.cell? ⟨(ad325.add ((x5_1).toNat * 9)).block, (ad325.add ((x5_1).toNat * 9)).off + 3, none⟩ = some (.int .i64 ((rd_T121 l0 x5_1).f1.f2.f0)) ∧ w'.cell? ⟨(ad325.add ((x5_1).toNat * 9)).block, (ad325.add ((x5_1).toNat * 9)).off + 4, none⟩ = some (.int .i64 ((rd_T121 l0 x5_1).f1.f2.f1)) ∧ w'.cell? ⟨(ad325.add ((x5_1).toNat * 9)).block, (ad325.add ((x5_1).toNat * 9)).off + 5, none⟩ = some (.int .i64 ((rd_T121 l0 x5_1).f1.f2.f2)) ∧ w'.cell? ⟨(ad325.add ((x5_1).toNat * 9)).block, (ad325.add ((x5_1).toNat * 9)).off + 6, none⟩ = some (.int .i64 ((rd_T121 l0 x5_1).f1.f3.f0)) ∧ w'.cell? ⟨(ad325.add ((x5_1).toNat * 9)).block, (ad325.add ((x5_1).toNat * 9)).off + 7, none⟩ = some (.int .i64 ((rd_T121 l0 x5_1).f1.f3.f1)) ∧ w'.cell? ⟨(ad325.add ((x5_1).toNat * 9)).block, (ad325.add ((x5_1).toNat * 9)).off + 8, none⟩ = some (.int .i64 ((rd_T121 l0 x5_1).f1.f3.f2)) ∧ w'.cell? (ad326.add ((x5_1).toNat * 9)) = some (.slice A326_0 ((rd_T121 l1 x5_1).f0).length c326_0) ∧ w'.cell? ⟨(ad326.add ((x5_1).toNat * 9)).block, (ad326.add ((x5_1).toNat * 9)).off + 1, none⟩ = some (.int .i64 ((rd_T121 l1 x5_1).f1.f0)) ∧ w'.cell? ⟨(ad326.add ((x5_1).toNat * 9)).block, (ad326.add ((x5_1).toNat * 9)).off + 2, none⟩ = some (.bool ((rd_T121 l1 x5_1).f1.f1)) ∧ w'.cell? ⟨(ad326.add ((x5_1).toNat * 9)).block, (ad326.add ((x5_1).toNat * 9)).off + 3, none⟩ = some (.int .i64 ((rd_T121 l1 x5_1).f1.f2.f0)) ∧ w'.cell? ⟨(ad326.add ((x5_1).toNat * 9)).block, (ad326.add ((x5_1).toNat * 9)).off + 4, none⟩ = some (.int .i64 ((rd_T121 l1 x5_1).f1.f2.f1)) ∧ w'.cell? ⟨(ad326.add ((x5_1).toNat * 9)).block, (ad326.add ((x5_1).toNat * 9)).off + 5, none⟩ = some (.int .i64 ((rd_T121 l1 x5_1).f1.f2.f2)) ∧ w'.cell? ⟨(ad326.add ((x5_1).toNat * 9)).block, (ad326.add ((x5_1).toNat * 9)).off + 6, none⟩ = some (.int .i64 ((rd_T121 l1 x5_1).f1.f3.f0)) ∧ w'.cell? ⟨(ad326.add ((x5_1).toNat * 9)).block, (ad326.add ((x5_1).toNat * 9)).off + 7, none⟩ = some (.int .i64 ((rd_T121 l1 x5_1).f1.f3.f1)) ∧ w'.cell? ⟨(ad326.add ((x5_1).toNat * 9)).block, (ad326.add ((x5_1).toNat * 9)).off + 8, none⟩ = some (.int .i64 ((rd_T121 l1 x5_1).f1.f3.f2))) (ds := []) #[false, false, false, false, false, false, false, false, false, false] (by kernel_rfl) rfl rfl ⟨(bc hw325_0), (bc hw325_1), (bc hw325_2), (bc hw325_3), (bc hw325_4), (bc hw325_5), (bc hw325_6), (bc hw325_7), (bc hw325_8), (bc hw326_0), (bc hw326_1), (bc hw326_2), (bc hw326_3), (bc hw326_4), (bc hw326_5), (bc hw326_6), (bc hw326_7), (bc hw326_8)⟩ (fun hHeld => ?_); refine with_tabW laws_eqFaceS.tab6 laws_eqFaceS.bits6 (fun HT_ HW_ => ?_)
                generalize wr.drew = w9 at HB HR325_0 HR326_0 hx325_0 hx325_1 hx325_2 hx325_3 hx325_4 hx325_5 hx325_6 hx325_7 hx325_8 hx326_0 hx326_1 hx326_2 hx326_3 hx326_4 hx326_5 hx326_6 hx326_7 hx326_8 hHeld ⊢
                refine pure_ (i := 0) (N := some 17) (v := ?_) (a' := ?_) #[true, false, false, false, false, false, false, false, false, false] rfl rfl (any_of HT_.out (by kernel_rfl)) (fun _ _ _ h => h) (Or.inl ⟨by rfl, ?_⟩) ?_ ?_
                rotate_left
                · intro w'
                  go_simp
                  with_reducible rfl
                rotate_left
                · simp only [Act.put, List.setIfInBounds_toArray, List.set_cons_zero, List.set_cons_succ, i64_w, i32_w]
                  rfl
                refine pure_ (i := 1) (N := some 18) (v := ?_) (a' := ?_) #[true, true, false, false, false, false, false, false, false, false] rfl rfl (any_of HT_.out (by kernel_rfl)) (fun _ _ _ h => h) (Or.inl ⟨by rfl, ?_⟩) ?_ ?_
                rotate_left
                · intro w'
                  go_simp
                  with_reducible rfl
                rotate_left
                · simp only [Act.put, List.setIfInBounds_toArray, List.set_cons_zero, List.set_cons_succ, i64_w, i32_w]
                  rfl
                refine pure_ (i := 2) (N := some 19) (v := ?_) (a' := ?_) #[true, true, true, false, false, false, false, false, false, false] rfl rfl (any_of HT_.out (by kernel_rfl)) (fun _ _ _ h => h) (Or.inl ⟨by rfl, ?_⟩) ?_ ?_
                rotate_left
                · intro w'
                  go_simp
                  with_reducible rfl
                rotate_left
                · simp only [Act.put, List.setIfInBounds_toArray, List.set_cons_zero, List.set_cons_succ, i64_w, i32_w]
                  rfl
                refine pure_ (i := 4) (N := some 21) (v := ?_) (a' := ?_) #[true, true, true, false, true, false, false, false, false, false] rfl rfl (any_of HT_.out (by kernel_rfl)) (fun _ _ _ h => h) (Or.inl ⟨by rfl, ?_⟩) ?_ ?_
                rotate_left
                · intro w'
                  go_simp
                  with_reducible rfl
                rotate_left
                · simp only [Act.put, List.setIfInBounds_toArray, List.set_cons_zero, List.set_cons_succ, i64_w, i32_w]
                  rfl
                refine pure_ (i := 5) (N := some 22) (v := ?_) (a' := ?_) #[true, true, true, false, true, true, false, false, false, false] rfl rfl (any_of HT_.out (by kernel_rfl)) (fun _ _ _ h => h) (Or.inl ⟨by rfl, ?_⟩) ?_ ?_
                rotate_left
                · intro w'
                  go_simp
                  with_reducible rfl
                rotate_left
                · simp only [Act.put, List.setIfInBounds_toArray, List.set_cons_zero, List.set_cons_succ, i64_w, i32_w]
                  rfl
                refine pure_ (i := 6) (N := some 23) (v := ?_) (a' := ?_) #[true, true, true, false, true, true, true, false, false, false] rfl rfl (any_of HT_.out (by kernel_rfl)) (fun _ _ _ h => h) (Or.inl ⟨by rfl, ?_⟩) ?_ ?_
                rotate_left
                · intro w'
                  go_simp
                  with_reducible rfl
                rotate_left
                · simp only [Act.put, List.setIfInBounds_toArray, List.set_cons_zero, List.set_cons_succ, i64_w, i32_w]
                  rfl
                refine take_ (i := 3) (N := some 20) (v := ?_) (a' := ?_) #[true, true, true, true, true, true, true, false, false, false] rfl rfl (take_ofW HT_.out HW_.out (by kernel_rfl)) (fun _ _ _ h => h) (Or.inl ⟨by rfl, ?_⟩) hHeld ?_ ?_
                rotate_left
                · rintro w' ⟨s0, s1, s2, s3, s4, s5, s6, s7, s8, s9, s10, s11, s12, s13, s14, s15, s16, s17⟩
                  go_simp
                  with_reducible rfl
                rotate_left
                · simp only [Act.put, List.setIfInBounds_toArray, List.set_cons_zero, List.set_cons_succ, i64_w, i32_w]
                  rfl
                refine take_ (i := 7) (N := some 24) (v := ?_) (a' := ?_) #[true, true, true, true, true, true, true, true, false, false] rfl rfl (take_ofW HT_.out HW_.out (by kernel_rfl)) (fun _ _ _ h => h) (Or.inl ⟨by rfl, ?_⟩) hHeld ?_ ?_
                rotate_left
                · rintro w' ⟨s0, s1, s2, s3, s4, s5, s6, s7, s8, s9, s10, s11, s12, s13, s14, s15, s16, s17⟩
                  go_simp
                  with_reducible rfl
                rotate_left
                · simp only [Act.put, List.setIfInBounds_toArray, List.set_cons_zero, List.set_cons_succ, i64_w, i32_w]
                  rfl
                refine one_ (i := 8) (N := some 25) #[true, true, true, true, true, true, true, true, true, false] rfl rfl (one_of HT_.out (by kernel_rfl)) (by decide) (fun K hK => ?_)
                refine goes_ Try.func151 (by kernel_rfl) rfl #[.agg #[.slice _ ((rd_T121 l0 x5_1).f0).length c325_0, .int .i64 ((rd_T121 l0 x5_1).f1.f0), .bool ((rd_T121 l0 x5_1).f1.f1), .int .i64 ((rd_T121 l0 x5_1).f1.f2.f0), .int .i64 ((rd_T121 l0 x5_1).f1.f2.f1), .int .i64 ((rd_T121 l0 x5_1).f1.f2.f2), .int .i64 ((rd_T121 l0 x5_1).f1.f3.f0), .int .i64 ((rd_T121 l0 x5_1).f1.f3.f1), .int .i64 ((rd_T121 l0 x5_1).f1.f3.f2)], .agg #[.slice _ ((rd_T121 l1 x5_1).f0).length c326_0, .int .i64 ((rd_T121 l1 x5_1).f1.f0), .bool ((rd_T121 l1 x5_1).f1.f1), .int .i64 ((rd_T121 l1 x5_1).f1.f2.f0), .int .i64 ((rd_T121 l1 x5_1).f1.f2.f1), .int .i64 ((rd_T121 l1 x5_1).f1.f2.f2), .int .i64 ((rd_T121 l1 x5_1).f1.f3.f0), .int .i64 ((rd_T121 l1 x5_1).f1.f3.f1), .int .i64 ((rd_T121 l1 x5_1).f1.f3.f2)]] (by rfl) rfl rfl (by (try simp only [List.map_toArray, List.map_cons, List.map_nil]); first | done | rfl | (simp only [List.length_drop, List.length_take]; rfl)) ?_
                with_reducible refine (laws_eqFace.calls k1 _ _ ((rd_T121 l0 x5_1).f0) ((rd_T121 l0 x5_1).f1.f0) ((rd_T121 l0 x5_1).f1.f1) ((rd_T121 l0 x5_1).f1.f2.f0) ((rd_T121 l0 x5_1).f1.f2.f1) ((rd_T121 l0 x5_1).f1.f2.f2) ((rd_T121 l0 x5_1).f1.f3.f0) ((rd_T121 l0 x5_1).f1.f3.f1) ((rd_T121 l0 x5_1).f1.f3.f2) _ _ ((rd_T121 l1 x5_1).f0) ((rd_T121 l1 x5_1).f1.f0) ((rd_T121 l1 x5_1).f1.f1) ((rd_T121 l1 x5_1).f1.f2.f0) ((rd_T121 l1 x5_1).f1.f2.f1) ((rd_T121 l1 x5_1).f1.f2.f2) ((rd_T121 l1 x5_1).f1.f3.f0) ((rd_T121 l1 x5_1).f1.f3.f1) ((rd_T121 l1 x5_1).f1.f3.f2) true _ ?side1 ?side2 ?side3 ?side4 A7.out).mono ?_
                (case side1 => exact sd HR325_0)
                (case side2 => exact HC325_0.out)
                (case side3 => exact sd HR326_0)
                (case side4 => exact HC326_0.out)
                rintro e w10 ⟨rfl, hb⟩
                refine ⟨_, rfl, ?_⟩
                replace HB := bs hb
                (try clear hb)
                (try clear hb2)
                (try clear hk)
                (try clear hi)
                refine hK.out _ _ ⟨(bc hw325_0), (bc hw325_1), (bc hw325_2), (bc hw325_3), (bc hw325_4), (bc hw325_5), (bc hw325_6), (bc hw325_7), (bc hw325_8), (bc hw326_0), (bc hw326_1), (bc hw326_2), (bc hw326_3), (bc hw326_4), (bc hw326_5), (bc hw326_6), (bc hw326_7), (bc hw326_8)⟩ (fun hHeld => ?_)
                clear hK K
                refine norm_ (a' := ?_) ?_ ?_
                rotate_left
                · show Act.put _ (some 25) _ = _
                  simp only [Act.put, List.setIfInBounds_toArray, List.set_cons_zero, List.set_cons_succ, i64_w, i32_w]
                  rfl
                refine pure_ (i := 9) (N := some 26) (v := ?_) (a' := ?_) #[true, true, true, true, true, true, true, true, true, true] rfl rfl (any_of HT_.out (by kernel_rfl)) (fun _ _ _ h => h) (Or.inl ⟨by rfl, ?_⟩) ?_ ?_
                rotate_left
                · intro w'
                  go_simp
                  with_reducible rfl
                rotate_left
                · simp only [Act.put, List.setIfInBounds_toArray, List.set_cons_zero, List.set_cons_succ, i64_w, i32_w]
                  rfl
                refine done_ (done_of HT_.out (by kernel_rfl)) ?_
                try go_wp2
                go_roundg k1
                case measure => have := HK1.out; omega
                case rel => exact ⟨(wrap64 (x5_1 + 1)), (by first | rfl | (simp; done) | (simp [*]; done)), H', ⟨by have := HK1.out; omega⟩, ⟨bw⟩⟩
              · replace c8 := Bool.eq_false_iff.mpr c8
                subst c8
                rw [if_neg nf] at H
                obtain rfl := Option.some.inj H
                try go_wp2
                replace HB := Aside0.mk (below_drew1 HB.out)
                have p325 : 0 ≤ (x5_1 : Int) := od
                have q325 : x5_1 < (l0.length : Int) := od
                obtain ⟨ad325, A325_0, c325_0, e325, hx325_0, hx325_1, hx325_2, hx325_3, hx325_4, hx325_5, hx325_6, hx325_7, hx325_8, hl325_0, hi325_0⟩ := at_T121 HR0.out x5_1 p325 q325
                have hw325_8 := hx325_8
                have hw325_7 := hx325_7
                have hw325_6 := hx325_6
                have hw325_5 := hx325_5
                have hw325_4 := hx325_4
                have hw325_3 := hx325_3
                have hw325_2 := hx325_2
                have hw325_1 := hx325_1
                have hw325_0 := hx325_0
                cases e325
                replace hx325_0 := bc hx325_0
                replace hx325_1 := bc hx325_1
                replace hx325_2 := bc hx325_2
                replace hx325_3 := bc hx325_3
                replace hx325_4 := bc hx325_4
                replace hx325_5 := bc hx325_5
                replace hx325_6 := bc hx325_6
                replace hx325_7 := bc hx325_7
                replace hx325_8 := bc hx325_8
                have HR325_0 := Aside0.mk hi325_0
                have HC325_0 := Aside0.mk hl325_0
                clear hi325_0 hl325_0
                replace p325 := eq_true p325
                replace q325 := eq_true q325
                have p326 : 0 ≤ (x5_1 : Int) := od
                have q326 : x5_1 < (l1.length : Int) := od
                obtain ⟨ad326, A326_0, c326_0, e326, hx326_0, hx326_1, hx326_2, hx326_3, hx326_4, hx326_5, hx326_6, hx326_7, hx326_8, hl326_0, hi326_0⟩ := at_T121 HR1.out x5_1 p326 q326
                have hw326_8 := hx326_8
                have hw326_7 := hx326_7
                have hw326_6 := hx326_6
                have hw326_5 := hx326_5
                have hw326_4 := hx326_4
                have hw326_3 := hx326_3
                have hw326_2 := hx326_2
                have hw326_1 := hx326_1
                have hw326_0 := hx326_0
                cases e326
                replace hx326_0 := bc hx326_0
                replace hx326_1 := bc hx326_1
                replace hx326_2 := bc hx326_2
                replace hx326_3 := bc hx326_3
                replace hx326_4 := bc hx326_4
                replace hx326_5 := bc hx326_5
                replace hx326_6 := bc hx326_6
                replace hx326_7 := bc hx326_7
                replace hx326_8 := bc hx326_8
                have HR326_0 := Aside0.mk hi326_0
                have HC326_0 := Aside0.mk hl326_0
                clear hi326_0 hl326_0
                replace p326 := eq_true p326
                replace q326 := eq_true q326
                refine start_ (n := 10) (S := fun w' => w'.cell? (ad325.add ((x5_1).toNat * 9)) = some (.slice A325_0 ((rd_T121 l0 x5_1).f0).length c325_0) ∧ w'.cell? ⟨(ad325.add ((x5_1).toNat * 9)).block, (ad325.add ((x5_1).toNat * 9)).off + 1, none⟩ = some (.int .i64 ((rd_T121 l0 x5_1).f1.f0)) ∧ w'.cell? ⟨(ad325.add ((x5_1).toNat * 9)).block, (ad325.add ((x5_1).toNat * 9)).off + 2, none⟩ = some (.bool ((rd_T121 l0 x5_1).f1.f1)) ∧ w'.cell? ⟨(ad325.add ((x5_1).toNat * 9)).block, (ad325.add ((x5_1).toNat * 9)).off + 3, none⟩ = some (.int .i64 ((rd_T121 l0 x5_1).f1.f2.f0)) ∧ w'.cell? ⟨(ad325.add ((x5_1).toNat * 9)).block, (ad325.add ((x5_1).toNat * 9)).off + 4, none⟩ = some (.int .i64 ((rd_T121 l0 x5_1).f1.f2.f1)) ∧ w'.cell? ⟨(ad325.add ((x5_1).toNat * 9)).block, (ad325.add ((x5_1).toNat * 9)).off + 5, none⟩ = some (.int .i64 ((rd_T121 l0 x5_1).f1.f2.f2)) ∧ w'.cell? ⟨(ad325.add ((x5_1).toNat * 9)).block, (ad325.add ((x5_1).toNat * 9)).off + 6, none⟩ = some (.int .i64 ((rd_T121 l0 x5_1).f1.f3.f0)) ∧ w'.cell? ⟨(ad325.add ((x5_1).toNat * 9)).block, (ad325.add ((x5_1).toNat * 9)).off + 7, none⟩ = some (.int .i64 ((rd_T121 l0 x5_1).f1.f3.f1)) ∧ w'.cell? ⟨(ad325.add ((x5_1).toNat * 9)).block, (ad325.add ((x5_1).toNat * 9)).off + 8, none⟩ = some (.int .i64 ((rd_T121 l0 x5_1).f1.f3.f2)) ∧ w'.cell? (ad326.add ((x5_1).toNat * 9)) = some (.slice A326_0 ((rd_T121 l1 x5_1).f0).length c326_0) ∧ w'.cell? ⟨(ad326.add ((x5_1).toNat * 9)).block, (ad326.add ((x5_1).toNat * 9)).off + 1, none⟩ = some (.int .i64 ((rd_T121 l1 x5_1).f1.f0)) ∧ w'.cell? ⟨(ad326.add ((x5_1).toNat * 9)).block, (ad326.add ((x5_1).toNat * 9)).off + 2, none⟩ = some (.bool ((rd_T121 l1 x5_1).f1.f1)) ∧ w'.cell? ⟨(ad326.add ((x5_1).toNat * 9)).block, (ad326.add ((x5_1).toNat * 9)).off + 3, none⟩ = some (.int .i64 ((rd_T121 l1 x5_1).f1.f2.f0)) ∧ w'.cell? ⟨(ad326.add ((x5_1).toNat * 9)).block, (ad326.add ((x5_1).toNat * 9)).off + 4, none⟩ = some (.int .i64 ((rd_T121 l1 x5_1).f1.f2.f1)) ∧ w'.cell? ⟨(ad326.add ((x5_1).toNat * 9)).block, (ad326.add ((x5_1).toNat * 9)).off + 5, none⟩ = some (.int .i64 ((rd_T121 l1 x5_1).f1.f2.f2)) ∧ w'.cell? ⟨(ad326.add ((x5_1).toNat * 9)).block, (ad326.add ((x5_1).toNat * 9)).off + 6, none⟩ = some (.int .i64 ((rd_T121 l1 x5_1).f1.f3.f0)) ∧ w'.cell? ⟨(ad326.add ((x5_1).toNat * 9)).block, (ad326.add ((x5_1).toNat * 9)).off + 7, none⟩ = some (.int .i64 ((rd_T121 l1 x5_1).f1.f3.f1)) ∧ w'.cell? ⟨(ad326.add ((x5_1).toNat * 9)).block, (ad326.add ((x5_1).toNat * 9)).off + 8, none⟩ = some (.int .i64 ((rd_T121 l1 x5_1).f1.f3.f2))) (ds := []) #[false, false, false, false, false, false, false, false, false, false] (by kernel_rfl) rfl rfl ⟨(bc hw325_0), (bc hw325_1), (bc hw325_2), (bc hw325_3), (bc hw325_4), (bc hw325_5), (bc hw325_6), (bc hw325_7), (bc hw325_8), (bc hw326_0), (bc hw326_1), (bc hw326_2), (bc hw326_3), (bc hw326_4), (bc hw326_5), (bc hw326_6), (bc hw326_7), (bc hw326_8)⟩ (fun hHeld => ?_); refine with_tabW laws_eqFaceS.tab6 laws_eqFaceS.bits6 (fun HT_ HW_ => ?_)
                generalize wr.drew = w11 at HB HR325_0 HR326_0 hx325_0 hx325_1 hx325_2 hx325_3 hx325_4 hx325_5 hx325_6 hx325_7 hx325_8 hx326_0 hx326_1 hx326_2 hx326_3 hx326_4 hx326_5 hx326_6 hx326_7 hx326_8 hHeld ⊢
                refine pure_ (i := 0) (N := some 17) (v := ?_) (a' := ?_) #[true, false, false, false, false, false, false, false, false, false] rfl rfl (any_of HT_.out (by kernel_rfl)) (fun _ _ _ h => h) (Or.inl ⟨by rfl, ?_⟩) ?_ ?_
                rotate_left
                · intro w'
                  go_simp
                  with_reducible rfl
                rotate_left
                · simp only [Act.put, List.setIfInBounds_toArray, List.set_cons_zero, List.set_cons_succ, i64_w, i32_w]
                  rfl
                refine pure_ (i := 1) (N := some 18) (v := ?_) (a' := ?_) #[true, true, false, false, false, false, false, false, false, false] rfl rfl (any_of HT_.out (by kernel_rfl)) (fun _ _ _ h => h) (Or.inl ⟨by rfl, ?_⟩) ?_ ?_
                rotate_left
                · intro w'
                  go_simp
                  with_reducible rfl
                rotate_left
                · simp only [Act.put, List.setIfInBounds_toArray, List.set_cons_zero, List.set_cons_succ, i64_w, i32_w]
                  rfl
                refine pure_ (i := 2) (N := some 19) (v := ?_) (a' := ?_) #[true, true, true, false, false, false, false, false, false, false] rfl rfl (any_of HT_.out (by kernel_rfl)) (fun _ _ _ h => h) (Or.inl ⟨by rfl, ?_⟩) ?_ ?_
                rotate_left
                · intro w'
                  go_simp
                  with_reducible rfl
                rotate_left
                · simp only [Act.put, List.setIfInBounds_toArray, List.set_cons_zero, List.set_cons_succ, i64_w, i32_w]
                  rfl
                refine pure_ (i := 4) (N := some 21) (v := ?_) (a' := ?_) #[true, true, true, false, true, false, false, false, false, false] rfl rfl (any_of HT_.out (by kernel_rfl)) (fun _ _ _ h => h) (Or.inl ⟨by rfl, ?_⟩) ?_ ?_
                rotate_left
                · intro w'
                  go_simp
                  with_reducible rfl
                rotate_left
                · simp only [Act.put, List.setIfInBounds_toArray, List.set_cons_zero, List.set_cons_succ, i64_w, i32_w]
                  rfl
                refine pure_ (i := 5) (N := some 22) (v := ?_) (a' := ?_) #[true, true, true, false, true, true, false, false, false, false] rfl rfl (any_of HT_.out (by kernel_rfl)) (fun _ _ _ h => h) (Or.inl ⟨by rfl, ?_⟩) ?_ ?_
                rotate_left
                · intro w'
                  go_simp
                  with_reducible rfl
                rotate_left
                · simp only [Act.put, List.setIfInBounds_toArray, List.set_cons_zero, List.set_cons_succ, i64_w, i32_w]
                  rfl
                refine pure_ (i := 6) (N := some 23) (v := ?_) (a' := ?_) #[true, true, true, false, true, true, true, false, false, false] rfl rfl (any_of HT_.out (by kernel_rfl)) (fun _ _ _ h => h) (Or.inl ⟨by rfl, ?_⟩) ?_ ?_
                rotate_left
                · intro w'
                  go_simp
                  with_reducible rfl
                rotate_left
                · simp only [Act.put, List.setIfInBounds_toArray, List.set_cons_zero, List.set_cons_succ, i64_w, i32_w]
                  rfl
                refine take_ (i := 3) (N := some 20) (v := ?_) (a' := ?_) #[true, true, true, true, true, true, true, false, false, false] rfl rfl (take_ofW HT_.out HW_.out (by kernel_rfl)) (fun _ _ _ h => h) (Or.inl ⟨by rfl, ?_⟩) hHeld ?_ ?_
                rotate_left
                · rintro w' ⟨s0, s1, s2, s3, s4, s5, s6, s7, s8, s9, s10, s11, s12, s13, s14, s15, s16, s17⟩
                  go_simp
                  with_reducible rfl
                rotate_left
                · simp only [Act.put, List.setIfInBounds_toArray, List.set_cons_zero, List.set_cons_succ, i64_w, i32_w]
                  rfl
                refine take_ (i := 7) (N := some 24) (v := ?_) (a' := ?_) #[true, true, true, true, true, true, true, true, false, false] rfl rfl (take_ofW HT_.out HW_.out (by kernel_rfl)) (fun _ _ _ h => h) (Or.inl ⟨by rfl, ?_⟩) hHeld ?_ ?_
                rotate_left
                · rintro w' ⟨s0, s1, s2, s3, s4, s5, s6, s7, s8, s9, s10, s11, s12, s13, s14, s15, s16, s17⟩
                  go_simp
                  with_reducible rfl
                rotate_left
                · simp only [Act.put, List.setIfInBounds_toArray, List.set_cons_zero, List.set_cons_succ, i64_w, i32_w]
                  rfl
                refine one_ (i := 8) (N := some 25) #[true, true, true, true, true, true, true, true, true, false] rfl rfl (one_of HT_.out (by kernel_rfl)) (by decide) (fun K hK => ?_)
                refine goes_ Try.func151 (by kernel_rfl) rfl #[.agg #[.slice _ ((rd_T121 l0 x5_1).f0).length c325_0, .int .i64 ((rd_T121 l0 x5_1).f1.f0), .bool ((rd_T121 l0 x5_1).f1.f1), .int .i64 ((rd_T121 l0 x5_1).f1.f2.f0), .int .i64 ((rd_T121 l0 x5_1).f1.f2.f1), .int .i64 ((rd_T121 l0 x5_1).f1.f2.f2), .int .i64 ((rd_T121 l0 x5_1).f1.f3.f0), .int .i64 ((rd_T121 l0 x5_1).f1.f3.f1), .int .i64 ((rd_T121 l0 x5_1).f1.f3.f2)], .agg #[.slice _ ((rd_T121 l1 x5_1).f0).length c326_0, .int .i64 ((rd_T121 l1 x5_1).f1.f0), .bool ((rd_T121 l1 x5_1).f1.f1), .int .i64 ((rd_T121 l1 x5_1).f1.f2.f0), .int .i64 ((rd_T121 l1 x5_1).f1.f2.f1), .int .i64 ((rd_T121 l1 x5_1).f1.f2.f2), .int .i64 ((rd_T121 l1 x5_1).f1.f3.f0), .int .i64 ((rd_T121 l1 x5_1).f1.f3.f1), .int .i64 ((rd_T121 l1 x5_1).f1.f3.f2)]] (by rfl) rfl rfl (by (try simp only [List.map_toArray, List.map_cons, List.map_nil]); first | done | rfl | (simp only [List.length_drop, List.length_take]; rfl)) ?_
                with_reducible refine (laws_eqFace.calls k1 _ _ ((rd_T121 l0 x5_1).f0) ((rd_T121 l0 x5_1).f1.f0) ((rd_T121 l0 x5_1).f1.f1) ((rd_T121 l0 x5_1).f1.f2.f0) ((rd_T121 l0 x5_1).f1.f2.f1) ((rd_T121 l0 x5_1).f1.f2.f2) ((rd_T121 l0 x5_1).f1.f3.f0) ((rd_T121 l0 x5_1).f1.f3.f1) ((rd_T121 l0 x5_1).f1.f3.f2) _ _ ((rd_T121 l1 x5_1).f0) ((rd_T121 l1 x5_1).f1.f0) ((rd_T121 l1 x5_1).f1.f1) ((rd_T121 l1 x5_1).f1.f2.f0) ((rd_T121 l1 x5_1).f1.f2.f1) ((rd_T121 l1 x5_1).f1.f2.f2) ((rd_T121 l1 x5_1).f1.f3.f0) ((rd_T121 l1 x5_1).f1.f3.f1) ((rd_T121 l1 x5_1).f1.f3.f2) false _ ?side1 ?side2 ?side3 ?side4 A7.out).mono ?_
                (case side1 => exact sd HR325_0)
                (case side2 => exact HC325_0.out)
                (case side3 => exact sd HR326_0)
                (case side4 => exact HC326_0.out)
                rintro e w12 ⟨rfl, hb⟩
                refine ⟨_, rfl, ?_⟩
                replace HB := bs hb
                (try clear hb)
                (try clear hb2)
                (try clear hk)
                (try clear hi)
                refine hK.out _ _ ⟨(bc hw325_0), (bc hw325_1), (bc hw325_2), (bc hw325_3), (bc hw325_4), (bc hw325_5), (bc hw325_6), (bc hw325_7), (bc hw325_8), (bc hw326_0), (bc hw326_1), (bc hw326_2), (bc hw326_3), (bc hw326_4), (bc hw326_5), (bc hw326_6), (bc hw326_7), (bc hw326_8)⟩ (fun hHeld => ?_)
                clear hK K
                refine norm_ (a' := ?_) ?_ ?_
                rotate_left
                · show Act.put _ (some 25) _ = _
                  simp only [Act.put, List.setIfInBounds_toArray, List.set_cons_zero, List.set_cons_succ, i64_w, i32_w]
                  rfl
                refine pure_ (i := 9) (N := some 26) (v := ?_) (a' := ?_) #[true, true, true, true, true, true, true, true, true, true] rfl rfl (any_of HT_.out (by kernel_rfl)) (fun _ _ _ h => h) (Or.inl ⟨by rfl, ?_⟩) ?_ ?_
                rotate_left
                · intro w'
                  go_simp
                  with_reducible rfl
                rotate_left
                · simp only [Act.put, List.setIfInBounds_toArray, List.set_cons_zero, List.set_cons_succ, i64_w, i32_w]
                  rfl
                refine done_ (done_of HT_.out (by kernel_rfl)) ?_
                try go_wp2
                go_ret
                exact ⟨er, bw⟩
            · rw [if_neg c6] at H
              exact absurd H (by simp)
          · rw [if_neg c5] at H
            exact absurd H (by simp)
        · rw [if_neg c4] at H
          have c4b0 : decide (x5_1 < (l0.length : Int)) = false := decide_eq_false c4
          clear c4
          obtain rfl := Option.some.inj H
          go_wp2
          go_ret
          exact ⟨er, bw⟩
  · rw [if_neg c3] at H
    have c3b0 : ((l0.length : Int) == (l1.length : Int)) = false := beq_eq_false_iff_ne.mpr c3
    have c3b1 : ((l0.length : Int) != (l1.length : Int)) = true := bne_iff_ne.mpr c3
    have c3b2 : (l0.length == l1.length) = false := by first | simpa using c3 | (simp at c3 ⊢; omega)
    obtain rfl := Option.some.inj H
    go_enter Try.func98, Try.ntmps98
    go_wp2
    go_ret
    exact ⟨er, bw⟩

/-! ### laws_eqState: function 41 -/
def laws_eqState.f (k : Nat) (l0_0 : List (S130)) (l0_1 : List (S121)) (l0_2 : List Int) (l1_0 : List (S130)) (l1_1 : List (S121)) (l1_2 : List Int) : Option (Bool) := (laws_eqPointS.f k l0_0 l1_0).bind fun t330 => (if t330 = true then ((laws_eqFaceS.f k l0_1 l1_1).bind fun t331 => (if t331 = true then ((laws_eqInt64S.f k l0_2 l1_2).bind fun t332 => (if t332 = true then (some true) else (some false))) else (some false))) else (some false))
theorem laws_eqState.mono : ∀ a0 a1 a2 a3 a4 a5 k, LeO (laws_eqState.f k a0 a1 a2 a3 a4 a5) (laws_eqState.f (k + 1) a0 a1 a2 a3 a4 a5) := by
  intro a0 a1 a2 a3 a4 a5 k
  unfold laws_eqState.f
  repeat' first
      | (with_reducible exact laws_eqFaceS.mono _ _ _)
      | (with_reducible exact laws_eqInt64S.mono _ _ _)
      | (with_reducible exact laws_eqPointS.mono _ _ _)
      | (with_reducible exact LeO.refl _)
      | (with_reducible exact LeO.none _)
      | (with_reducible refine LeO.ite ?_ ?_)
      | (with_reducible refine LeO.bind ?_ (fun _ => ?_))
      | exact laws_eqFaceS.mono _ _ _
      | exact laws_eqInt64S.mono _ _ _
      | exact laws_eqPointS.mono _ _ _
      | exact LeO.none _
      | refine LeO.ite ?_ ?_
      | refine LeO.bind ?_ (fun _ => ?_)
set_option maxHeartbeats 8000000 in
set_option maxRecDepth 100000 in
theorem laws_eqState.calls (k : Nat) (A0_0 : Option Addr) (c0_0 : Nat) (l0_0 : List (S130)) (A0_1 : Option Addr) (c0_1 : Nat) (l0_1 : List (S121)) (A0_2 : Option Addr) (c0_2 : Nat) (l0_2 : List Int) (A1_0 : Option Addr) (c1_0 : Nat) (l1_0 : List (S130)) (A1_1 : Option Addr) (c1_1 : Nat) (l1_1 : List (S121)) (A1_2 : Option Addr) (c1_2 : Nat) (l1_2 : List Int) (r : Bool) (w : World) (hr0_0 : Kd.C k130 w A0_0 l0_0.length l0_0) (hc0_0 : l0_0.length ≤ c0_0) (hr0_1 : Kd.C k121 w A0_1 l0_1.length l0_1) (hc0_1 : l0_1.length ≤ c0_1) (hr0_2 : Kd.C (Kd.int .i64) w A0_2 l0_2.length l0_2) (hc0_2 : l0_2.length ≤ c0_2) (hr1_0 : Kd.C k130 w A1_0 l1_0.length l1_0) (hc1_0 : l1_0.length ≤ c1_0) (hr1_1 : Kd.C k121 w A1_1 l1_1.length l1_1) (hc1_1 : l1_1.length ≤ c1_1) (hr1_2 : Kd.C (Kd.int .i64) w A1_2 l1_2.length l1_2) (hc1_2 : l1_2.length ≤ c1_2) (h : laws_eqState.f k l0_0 l0_1 l0_2 l1_0 l1_1 l1_2 = some r) :
    Calls Try.prog 41 #[.agg #[.slice A0_0 l0_0.length c0_0, .slice A0_1 l0_1.length c0_1, .slice A0_2 l0_2.length c0_2], .agg #[.slice A1_0 l1_0.length c1_0, .slice A1_1 l1_1.length c1_1, .slice A1_2 l1_2.length c1_2]] w fun e w' => e = .returned (.bool r) ∧ Below w.heap.size w w' := by
  have hu65 := Try.underlying65
  have HR0_0 := Aside0.mk hr0_0
  have HC0_0 := Aside0.mk hc0_0
  clear hr0_0 hc0_0
  have HR0_1 := Aside0.mk hr0_1
  have HC0_1 := Aside0.mk hc0_1
  clear hr0_1 hc0_1
  have HR0_2 := Aside0.mk hr0_2
  have HC0_2 := Aside0.mk hc0_2
  clear hr0_2 hc0_2
  have HR1_0 := Aside0.mk hr1_0
  have HC1_0 := Aside0.mk hc1_0
  clear hr1_0 hc1_0
  have HR1_1 := Aside0.mk hr1_1
  have HC1_1 := Aside0.mk hc1_1
  clear hr1_1 hc1_1
  have HR1_2 := Aside0.mk hr1_2
  have HC1_2 := Aside0.mk hc1_2
  clear hr1_2 hc1_2
  have HB := Aside0.mk (Below.refl w.heap.size w)
  have H : ((laws_eqPointS.f k l0_0 l1_0).bind fun t330 => (if t330 = true then ((laws_eqFaceS.f k l0_1 l1_1).bind fun t331 => (if t331 = true then ((laws_eqInt64S.f k l0_2 l1_2).bind fun t332 => (if t332 = true then (some true) else (some false))) else (some false))) else (some false))) = some r := h
  clear h
  replace H := Option.bind_eq_some_iff.mp H
  obtain ⟨t330, A30, H⟩ := H
  replace H : (if t330 = true then ((laws_eqFaceS.f k l0_1 l1_1).bind fun t331 => (if t331 = true then ((laws_eqInt64S.f k l0_2 l1_2).bind fun t332 => (if t332 = true then (some true) else (some false))) else (some false))) else (some false)) = some r := H
  have A3 := Aside0.mk A30
  clear A30
  by_cases c4 : t330 = true
  · subst c4
    rw [if_pos rfl] at H
    replace H := Option.bind_eq_some_iff.mp H
    obtain ⟨t331, A50, H⟩ := H
    replace H : (if t331 = true then ((laws_eqInt64S.f k l0_2 l1_2).bind fun t332 => (if t332 = true then (some true) else (some false))) else (some false)) = some r := H
    have A5 := Aside0.mk A50
    clear A50
    by_cases c6 : t331 = true
    · subst c6
      rw [if_pos rfl] at H
      replace H := Option.bind_eq_some_iff.mp H
      obtain ⟨t332, A70, H⟩ := H
      replace H : (if t332 = true then (some true) else (some false)) = some r := H
      have A7 := Aside0.mk A70
      clear A70
      by_cases c8 : t332 = true
      · subst c8
        rw [if_pos rfl] at H
        obtain rfl := Option.some.inj H
        go_enter Try.func41, Try.ntmps41
        go_wp2_with (first | ((with_reducible refine gate_dst (N := 2) rfl ?_); refine bx #[.slice A0_0 l0_0.length c0_0, .slice A0_1 l0_1.length c0_1, .slice A0_2 l0_2.length c0_2] 65 ?_; intro gb328 hg w9 hbox hb; have BK328 := Aside0.mk hbox; have GW328 := bg hg; have GE328 := bg hg; replace HB := bs hb; clear hb hbox hg) | ((with_reducible refine gate_dst (N := 3) rfl ?_); refine bx #[.slice A1_0 l1_0.length c1_0, .slice A1_1 l1_1.length c1_1, .slice A1_2 l1_2.length c1_2] 65 ?_; intro gb329 hg w10 hbox hb; have BK329 := Aside0.mk hbox; have GW329 := bg hg; have GE329 := bg hg; have NB328_329 := bl BK328 hg; have NB329_328 := bv BK328 hg; replace BK328 := bb BK328 hb; replace HB := bs hb; clear hb hbox hg; have hnb11 := NB328_329.out; have hnc11 := NB329_328.out; obtain ⟨z12_0, z12_1, z12_2, y12_0, y12_1, y12_2⟩ := bq3 BK328; obtain ⟨z13_0, z13_1, z13_2, y13_0, y13_1, y13_2⟩ := bq3 BK329) | ((with_reducible refine gate_callee (f := 97) rfl ?_); refine gl (some 9) Try.func97 #[.slice A0_0 l0_0.length c0_0, .slice A1_0 l1_0.length c1_0] ?_; (with_reducible refine (laws_eqPointS.calls k _ _ l0_0 _ _ l1_0 true _ ?side1 ?side2 ?side3 ?side4 A3.out).mono ?_); (case side1 => exact sd HR0_0); (case side2 => exact HC0_0.out); (case side3 => exact sd HR1_0); (case side4 => exact HC1_0.out); rintro e w14 ⟨rfl, hb⟩; refine ⟨_, rfl, ?_⟩; replace BK328 := bb BK328 hb; replace BK329 := bb BK329 hb; replace HB := bs hb; (try clear hb); (try clear hb2); (try clear hk); (try clear hi); obtain ⟨z15_0, z15_1, z15_2, y15_0, y15_1, y15_2⟩ := bq3 BK328; obtain ⟨z16_0, z16_1, z16_2, y16_0, y16_1, y16_2⟩ := bq3 BK329) | ((with_reducible refine gate_callee (f := 98) rfl ?_); refine gl (some 15) Try.func98 #[.slice A0_1 l0_1.length c0_1, .slice A1_1 l1_1.length c1_1] ?_; (with_reducible refine (laws_eqFaceS.calls k _ _ l0_1 _ _ l1_1 true _ ?side1 ?side2 ?side3 ?side4 A5.out).mono ?_); (case side1 => exact sd HR0_1); (case side2 => exact HC0_1.out); (case side3 => exact sd HR1_1); (case side4 => exact HC1_1.out); rintro e w17 ⟨rfl, hb⟩; refine ⟨_, rfl, ?_⟩; replace BK328 := bb BK328 hb; replace BK329 := bb BK329 hb; replace HB := bs hb; (try clear hb); (try clear hb2); (try clear hk); (try clear hi); obtain ⟨z18_0, z18_1, z18_2, y18_0, y18_1, y18_2⟩ := bq3 BK328; obtain ⟨z19_0, z19_1, z19_2, y19_0, y19_1, y19_2⟩ := bq3 BK329) | ((with_reducible refine gate_callee (f := 25) rfl ?_); refine gl (some 21) Try.func25 #[.slice A0_2 l0_2.length c0_2, .slice A1_2 l1_2.length c1_2] ?_; (with_reducible refine (laws_eqInt64S.calls k _ _ l0_2 _ _ l1_2 true _ ?side1 ?side2 ?side3 ?side4 A7.out).mono ?_); (case side1 => exact sd HR0_2); (case side2 => exact HC0_2.out); (case side3 => exact sd HR1_2); (case side4 => exact HC1_2.out); rintro e w' ⟨rfl, ⟨nd, rfl⟩⟩; refine ⟨_, rfl, ?_⟩))
        go_ret
        exact ⟨er, bw⟩
      · replace c8 := Bool.eq_false_iff.mpr c8
        subst c8
        rw [if_neg nf] at H
        obtain rfl := Option.some.inj H
        go_enter Try.func41, Try.ntmps41
        go_wp2_with (first | ((with_reducible refine gate_dst (N := 2) rfl ?_); refine bx #[.slice A0_0 l0_0.length c0_0, .slice A0_1 l0_1.length c0_1, .slice A0_2 l0_2.length c0_2] 65 ?_; intro gb328 hg w20 hbox hb; have BK328 := Aside0.mk hbox; have GW328 := bg hg; have GE328 := bg hg; replace HB := bs hb; clear hb hbox hg) | ((with_reducible refine gate_dst (N := 3) rfl ?_); refine bx #[.slice A1_0 l1_0.length c1_0, .slice A1_1 l1_1.length c1_1, .slice A1_2 l1_2.length c1_2] 65 ?_; intro gb329 hg w21 hbox hb; have BK329 := Aside0.mk hbox; have GW329 := bg hg; have GE329 := bg hg; have NB328_329 := bl BK328 hg; have NB329_328 := bv BK328 hg; replace BK328 := bb BK328 hb; replace HB := bs hb; clear hb hbox hg; have hnb22 := NB328_329.out; have hnc22 := NB329_328.out; obtain ⟨z23_0, z23_1, z23_2, y23_0, y23_1, y23_2⟩ := bq3 BK328; obtain ⟨z24_0, z24_1, z24_2, y24_0, y24_1, y24_2⟩ := bq3 BK329) | ((with_reducible refine gate_callee (f := 97) rfl ?_); refine gl (some 9) Try.func97 #[.slice A0_0 l0_0.length c0_0, .slice A1_0 l1_0.length c1_0] ?_; (with_reducible refine (laws_eqPointS.calls k _ _ l0_0 _ _ l1_0 true _ ?side1 ?side2 ?side3 ?side4 A3.out).mono ?_); (case side1 => exact sd HR0_0); (case side2 => exact HC0_0.out); (case side3 => exact sd HR1_0); (case side4 => exact HC1_0.out); rintro e w25 ⟨rfl, hb⟩; refine ⟨_, rfl, ?_⟩; replace BK328 := bb BK328 hb; replace BK329 := bb BK329 hb; replace HB := bs hb; (try clear hb); (try clear hb2); (try clear hk); (try clear hi); obtain ⟨z26_0, z26_1, z26_2, y26_0, y26_1, y26_2⟩ := bq3 BK328; obtain ⟨z27_0, z27_1, z27_2, y27_0, y27_1, y27_2⟩ := bq3 BK329) | ((with_reducible refine gate_callee (f := 98) rfl ?_); refine gl (some 15) Try.func98 #[.slice A0_1 l0_1.length c0_1, .slice A1_1 l1_1.length c1_1] ?_; (with_reducible refine (laws_eqFaceS.calls k _ _ l0_1 _ _ l1_1 true _ ?side1 ?side2 ?side3 ?side4 A5.out).mono ?_); (case side1 => exact sd HR0_1); (case side2 => exact HC0_1.out); (case side3 => exact sd HR1_1); (case side4 => exact HC1_1.out); rintro e w28 ⟨rfl, hb⟩; refine ⟨_, rfl, ?_⟩; replace BK328 := bb BK328 hb; replace BK329 := bb BK329 hb; replace HB := bs hb; (try clear hb); (try clear hb2); (try clear hk); (try clear hi); obtain ⟨z29_0, z29_1, z29_2, y29_0, y29_1, y29_2⟩ := bq3 BK328; obtain ⟨z30_0, z30_1, z30_2, y30_0, y30_1, y30_2⟩ := bq3 BK329) | ((with_reducible refine gate_callee (f := 25) rfl ?_); refine gl (some 21) Try.func25 #[.slice A0_2 l0_2.length c0_2, .slice A1_2 l1_2.length c1_2] ?_; (with_reducible refine (laws_eqInt64S.calls k _ _ l0_2 _ _ l1_2 false _ ?side1 ?side2 ?side3 ?side4 A7.out).mono ?_); (case side1 => exact sd HR0_2); (case side2 => exact HC0_2.out); (case side3 => exact sd HR1_2); (case side4 => exact HC1_2.out); rintro e w' ⟨rfl, ⟨nd, rfl⟩⟩; refine ⟨_, rfl, ?_⟩))
        go_ret
        exact ⟨er, bw⟩
    · replace c6 := Bool.eq_false_iff.mpr c6
      subst c6
      rw [if_neg nf] at H
      obtain rfl := Option.some.inj H
      go_enter Try.func41, Try.ntmps41
      go_wp2_with (first | ((with_reducible refine gate_dst (N := 2) rfl ?_); refine bx #[.slice A0_0 l0_0.length c0_0, .slice A0_1 l0_1.length c0_1, .slice A0_2 l0_2.length c0_2] 65 ?_; intro gb328 hg w31 hbox hb; have BK328 := Aside0.mk hbox; have GW328 := bg hg; have GE328 := bg hg; replace HB := bs hb; clear hb hbox hg) | ((with_reducible refine gate_dst (N := 3) rfl ?_); refine bx #[.slice A1_0 l1_0.length c1_0, .slice A1_1 l1_1.length c1_1, .slice A1_2 l1_2.length c1_2] 65 ?_; intro gb329 hg w32 hbox hb; have BK329 := Aside0.mk hbox; have GW329 := bg hg; have GE329 := bg hg; have NB328_329 := bl BK328 hg; have NB329_328 := bv BK328 hg; replace BK328 := bb BK328 hb; replace HB := bs hb; clear hb hbox hg; have hnb33 := NB328_329.out; have hnc33 := NB329_328.out; obtain ⟨z34_0, z34_1, z34_2, y34_0, y34_1, y34_2⟩ := bq3 BK328; obtain ⟨z35_0, z35_1, z35_2, y35_0, y35_1, y35_2⟩ := bq3 BK329) | ((with_reducible refine gate_callee (f := 97) rfl ?_); refine gl (some 9) Try.func97 #[.slice A0_0 l0_0.length c0_0, .slice A1_0 l1_0.length c1_0] ?_; (with_reducible refine (laws_eqPointS.calls k _ _ l0_0 _ _ l1_0 true _ ?side1 ?side2 ?side3 ?side4 A3.out).mono ?_); (case side1 => exact sd HR0_0); (case side2 => exact HC0_0.out); (case side3 => exact sd HR1_0); (case side4 => exact HC1_0.out); rintro e w36 ⟨rfl, hb⟩; refine ⟨_, rfl, ?_⟩; replace BK328 := bb BK328 hb; replace BK329 := bb BK329 hb; replace HB := bs hb; (try clear hb); (try clear hb2); (try clear hk); (try clear hi); obtain ⟨z37_0, z37_1, z37_2, y37_0, y37_1, y37_2⟩ := bq3 BK328; obtain ⟨z38_0, z38_1, z38_2, y38_0, y38_1, y38_2⟩ := bq3 BK329) | ((with_reducible refine gate_callee (f := 98) rfl ?_); refine gl (some 15) Try.func98 #[.slice A0_1 l0_1.length c0_1, .slice A1_1 l1_1.length c1_1] ?_; (with_reducible refine (laws_eqFaceS.calls k _ _ l0_1 _ _ l1_1 false _ ?side1 ?side2 ?side3 ?side4 A5.out).mono ?_); (case side1 => exact sd HR0_1); (case side2 => exact HC0_1.out); (case side3 => exact sd HR1_1); (case side4 => exact HC1_1.out); rintro e w39 ⟨rfl, hb⟩; refine ⟨_, rfl, ?_⟩; replace BK328 := bb BK328 hb; replace BK329 := bb BK329 hb; replace HB := bs hb; (try clear hb); (try clear hb2); (try clear hk); (try clear hi)))
      go_ret
      exact ⟨er, bw⟩
  · replace c4 := Bool.eq_false_iff.mpr c4
    subst c4
    rw [if_neg nf] at H
    obtain rfl := Option.some.inj H
    go_enter Try.func41, Try.ntmps41
    go_wp2_with (first | ((with_reducible refine gate_dst (N := 2) rfl ?_); refine bx #[.slice A0_0 l0_0.length c0_0, .slice A0_1 l0_1.length c0_1, .slice A0_2 l0_2.length c0_2] 65 ?_; intro gb328 hg w40 hbox hb; have BK328 := Aside0.mk hbox; have GW328 := bg hg; have GE328 := bg hg; replace HB := bs hb; clear hb hbox hg) | ((with_reducible refine gate_dst (N := 3) rfl ?_); refine bx #[.slice A1_0 l1_0.length c1_0, .slice A1_1 l1_1.length c1_1, .slice A1_2 l1_2.length c1_2] 65 ?_; intro gb329 hg w41 hbox hb; have BK329 := Aside0.mk hbox; have GW329 := bg hg; have GE329 := bg hg; have NB328_329 := bl BK328 hg; have NB329_328 := bv BK328 hg; replace BK328 := bb BK328 hb; replace HB := bs hb; clear hb hbox hg; have hnb42 := NB328_329.out; have hnc42 := NB329_328.out; obtain ⟨z43_0, z43_1, z43_2, y43_0, y43_1, y43_2⟩ := bq3 BK328; obtain ⟨z44_0, z44_1, z44_2, y44_0, y44_1, y44_2⟩ := bq3 BK329) | ((with_reducible refine gate_callee (f := 97) rfl ?_); refine gl (some 9) Try.func97 #[.slice A0_0 l0_0.length c0_0, .slice A1_0 l1_0.length c1_0] ?_; (with_reducible refine (laws_eqPointS.calls k _ _ l0_0 _ _ l1_0 false _ ?side1 ?side2 ?side3 ?side4 A3.out).mono ?_); (case side1 => exact sd HR0_0); (case side2 => exact HC0_0.out); (case side3 => exact sd HR1_0); (case side4 => exact HC1_0.out); rintro e w45 ⟨rfl, hb⟩; refine ⟨_, rfl, ?_⟩; replace BK328 := bb BK328 hb; replace BK329 := bb BK329 hb; replace HB := bs hb; (try clear hb); (try clear hb2); (try clear hk); (try clear hi)))
    go_ret
    exact ⟨er, bw⟩

/-! ### laws_markPointS: function 99 -/
def laws_markPointS.l0 : Nat → List (S130) → Int → Int → Option (Int × (List (S130)))
  | 0, _, _, _ => none
  | k + 1, x0, x1, x5 => if x5 < (x0.length : Int) then (if 0 ≤ x5 then ((some (x0.set (x5 : Int).toNat (⟨(⟨x1, (rd_T130 x0 x5).f0.f1, (rd_T130 x0 x5).f0.f2⟩ : S94), (⟨(rd_T130 x0 x5).f1.f0, (rd_T130 x0 x5).f1.f1, (rd_T130 x0 x5).f1.f2⟩ : S94)⟩ : S130) : List (S130))).bind fun y333 => ((some (y333.set (x5 : Int).toNat (⟨(⟨(rd_T130 y333 x5).f0.f0, wrap64 (x1 + 1), (rd_T130 y333 x5).f0.f2⟩ : S94), (⟨(rd_T130 y333 x5).f1.f0, (rd_T130 y333 x5).f1.f1, (rd_T130 y333 x5).f1.f2⟩ : S94)⟩ : S130) : List (S130))).bind fun y334 => ((some (y334.set (x5 : Int).toNat (⟨(⟨(rd_T130 y334 x5).f0.f0, (rd_T130 y334 x5).f0.f1, wrap64 ((wrap64 (x1 + 1)) + 1)⟩ : S94), (⟨(rd_T130 y334 x5).f1.f0, (rd_T130 y334 x5).f1.f1, (rd_T130 y334 x5).f1.f2⟩ : S94)⟩ : S130) : List (S130))).bind fun y335 => ((some (y335.set (x5 : Int).toNat (⟨(⟨(rd_T130 y335 x5).f0.f0, (rd_T130 y335 x5).f0.f1, (rd_T130 y335 x5).f0.f2⟩ : S94), (⟨wrap64 ((wrap64 ((wrap64 (x1 + 1)) + 1)) + 1), (rd_T130 y335 x5).f1.f1, (rd_T130 y335 x5).f1.f2⟩ : S94)⟩ : S130) : List (S130))).bind fun y336 => ((some (y336.set (x5 : Int).toNat (⟨(⟨(rd_T130 y336 x5).f0.f0, (rd_T130 y336 x5).f0.f1, (rd_T130 y336 x5).f0.f2⟩ : S94), (⟨(rd_T130 y336 x5).f1.f0, wrap64 ((wrap64 ((wrap64 ((wrap64 (x1 + 1)) + 1)) + 1)) + 1), (rd_T130 y336 x5).f1.f2⟩ : S94)⟩ : S130) : List (S130))).bind fun y337 => (laws_markPointS.l0 k (y337.set (x5 : Int).toNat (⟨(⟨(rd_T130 y337 x5).f0.f0, (rd_T130 y337 x5).f0.f1, (rd_T130 y337 x5).f0.f2⟩ : S94), (⟨(rd_T130 y337 x5).f1.f0, (rd_T130 y337 x5).f1.f1, wrap64 ((wrap64 ((wrap64 ((wrap64 ((wrap64 (x1 + 1)) + 1)) + 1)) + 1)) + 1)⟩ : S94)⟩ : S130)) (wrap64 ((wrap64 ((wrap64 ((wrap64 ((wrap64 ((wrap64 (x1 + 1)) + 1)) + 1)) + 1)) + 1)) + 1)) (wrap64 (x5 + 1)))))))) else (none)) else (some (x1, x0))
def laws_markPointS.f (k : Nat) (l0 : List (S130)) (a1 : Int) : Option (Int × (List (S130))) := laws_markPointS.l0 k l0 a1 0
theorem laws_markPointS.mono_l : ∀ k, (∀ y0 y1 y2, LeO (laws_markPointS.l0 k y0 y1 y2) (laws_markPointS.l0 (k + 1) y0 y1 y2))
  | 0 => fun _ _ _ r h => by simp [laws_markPointS.l0] at h
  | k + 1 => by
    have ih0 := laws_markPointS.mono_l k
    · intro y0 y1 y2
      unfold laws_markPointS.l0
      repeat' first
      | (with_reducible exact ih0 _ _ _)
      | (with_reducible exact LeO.refl _)
      | (with_reducible exact LeO.none _)
      | (with_reducible refine LeO.ite ?_ ?_)
      | (with_reducible refine LeO.bind ?_ (fun _ => ?_))
      | exact ih0 _ _ _
      | exact LeO.none _
      | refine LeO.ite ?_ ?_
      | refine LeO.bind ?_ (fun _ => ?_)
theorem laws_markPointS.mono : ∀ a0 a1 k, LeO (laws_markPointS.f k a0 a1) (laws_markPointS.f (k + 1) a0 a1) := by
  intro a0 a1 k
  have ih0 := laws_markPointS.mono_l k
  unfold laws_markPointS.f
  repeat' first
      | (with_reducible exact ih0 _ _ _)
      | (with_reducible exact LeO.refl _)
      | (with_reducible exact LeO.none _)
      | (with_reducible refine LeO.ite ?_ ?_)
      | (with_reducible refine LeO.bind ?_ (fun _ => ?_))
      | exact ih0 _ _ _
      | exact LeO.none _
      | refine LeO.ite ?_ ?_
      | refine LeO.bind ?_ (fun _ => ?_)
set_option maxHeartbeats 8000000 in
set_option maxRecDepth 100000 in
theorem laws_markPointS.calls (k : Nat) (P0_ : Nat → Prop) (u9000_ : Value) (l0 : List (S130)) (a1 : Int) (r1 : Int) (r2 : List (S130)) (w0 w : World) (hB : Below w0.heap.size w0 w) (ho0 : Kd.R k130 130 w w0.heap.size P0_ u9000_ l0) (h : laws_markPointS.f k l0 a1 = some (r1, r2)) :
    Calls Try.prog 99 #[u9000_, .int .i64 a1] w fun e w' => e = .returned (.int .i64 r1) ∧ Kd.R k130 130 w' w0.heap.size (fun k_ => (P0_ k_ ∨ w.heap.size ≤ k_)) u9000_ r2 ∧ Below w0.heap.size w0 w' ∧ Kept w w' (fun k_ => P0_ k_) := by
  have HO0 := Aside0.mk (show Kd.R k130 130 w w0.heap.size (fun k_ => (P0_ k_ ∨ w.heap.size ≤ k_)) u9000_ l0 from Kd.R_mono ho0 (fun k_ hk => (.inl hk)))
  have HK := Aside0.mk (Kept.refl w (fun k_ => P0_ k_))
  have HW0 := Aside0.mk hB.size
  have HB := Aside0.mk hB
  clear hB
  have H : (laws_markPointS.l0 k l0 a1 0) = some (r1, r2) := h
  clear h
  have H' := Aside0.mk H
  clear H
  go_enter Try.func99, Try.ntmps99
  go_wp2
  go_loopg [1, 5] k (fun kq v1 v5 w' => ∃ (x0_1 : List (S130)) (x1_1 : Int) (x5_1 : Int), v1 = .int .i64 x1_1 ∧ v5 = .int .i64 x5_1 ∧ Aside0 (laws_markPointS.l0 kq x0_1 x1_1 x5_1 = some (r1, r2)) ∧ Aside0 (kq ≤ k) ∧ Aside0 (Kd.R k130 130 w' w0.heap.size (fun k_ => (P0_ k_ ∨ w.heap.size ≤ k_)) u9000_ x0_1) ∧ Aside0 (Kept w w' (fun k_ => P0_ k_)) ∧ Aside0 (Below w0.heap.size w0 w'))
  case atStart => exact ⟨(l0), (a1), (0), (by first | rfl | (simp; done) | (simp [*]; done)), (by first | rfl | (simp; done) | (simp [*]; done)), H', ⟨Nat.le_refl _⟩, ⟨by refine ra (h := ?_); exact HO0.out⟩, ⟨by repeat (first | (with_reducible first | exact HK.out | apply Kept.alloc | apply Kept.drewN | apply Kept.drew) | exact HK.out)⟩, ⟨bw⟩⟩
  case round =>
    clear H'
    try clear p2
    obtain ⟨x0_1, x1_1, x5_1, rfl, rfl, HA, HK1, HO_0, HK, HB⟩ := hrel
    cases gk with
    | zero => exact absurd HA.out (by simp [laws_markPointS.l0])
    | succ k1 =>
      have H := HA.out
      clear HA
      simp only [laws_markPointS.l0] at H
      by_cases c3 : x5_1 < (x0_1.length : Int)
      · rw [if_pos c3] at H
        have c3b0 : decide (x5_1 < (x0_1.length : Int)) = true := decide_eq_true c3
        clear c3
        by_cases c4 : 0 ≤ x5_1
        · rw [if_pos c4] at H
          have c4b0 : decide (0 ≤ x5_1) = true := decide_eq_true c4
          clear c4
          obtain ⟨y333, hy333⟩ : ∃ y_ : List (S130), y_ = (x0_1.set (x5_1 : Int).toNat (⟨(⟨x1_1, (rd_T130 x0_1 x5_1).f0.f1, (rd_T130 x0_1 x5_1).f0.f2⟩ : S94), (⟨(rd_T130 x0_1 x5_1).f1.f0, (rd_T130 x0_1 x5_1).f1.f1, (rd_T130 x0_1 x5_1).f1.f2⟩ : S94)⟩ : S130)) := ⟨_, rfl⟩
          replace H : ((some (y333.set (x5_1 : Int).toNat (⟨(⟨(rd_T130 y333 x5_1).f0.f0, wrap64 (x1_1 + 1), (rd_T130 y333 x5_1).f0.f2⟩ : S94), (⟨(rd_T130 y333 x5_1).f1.f0, (rd_T130 y333 x5_1).f1.f1, (rd_T130 y333 x5_1).f1.f2⟩ : S94)⟩ : S130) : List (S130))).bind fun y334 => ((some (y334.set (x5_1 : Int).toNat (⟨(⟨(rd_T130 y334 x5_1).f0.f0, (rd_T130 y334 x5_1).f0.f1, wrap64 ((wrap64 (x1_1 + 1)) + 1)⟩ : S94), (⟨(rd_T130 y334 x5_1).f1.f0, (rd_T130 y334 x5_1).f1.f1, (rd_T130 y334 x5_1).f1.f2⟩ : S94)⟩ : S130) : List (S130))).bind fun y335 => ((some (y335.set (x5_1 : Int).toNat (⟨(⟨(rd_T130 y335 x5_1).f0.f0, (rd_T130 y335 x5_1).f0.f1, (rd_T130 y335 x5_1).f0.f2⟩ : S94), (⟨wrap64 ((wrap64 ((wrap64 (x1_1 + 1)) + 1)) + 1), (rd_T130 y335 x5_1).f1.f1, (rd_T130 y335 x5_1).f1.f2⟩ : S94)⟩ : S130) : List (S130))).bind fun y336 => ((some (y336.set (x5_1 : Int).toNat (⟨(⟨(rd_T130 y336 x5_1).f0.f0, (rd_T130 y336 x5_1).f0.f1, (rd_T130 y336 x5_1).f0.f2⟩ : S94), (⟨(rd_T130 y336 x5_1).f1.f0, wrap64 ((wrap64 ((wrap64 ((wrap64 (x1_1 + 1)) + 1)) + 1)) + 1), (rd_T130 y336 x5_1).f1.f2⟩ : S94)⟩ : S130) : List (S130))).bind fun y337 => (laws_markPointS.l0 k1 (y337.set (x5_1 : Int).toNat (⟨(⟨(rd_T130 y337 x5_1).f0.f0, (rd_T130 y337 x5_1).f0.f1, (rd_T130 y337 x5_1).f0.f2⟩ : S94), (⟨(rd_T130 y337 x5_1).f1.f0, (rd_T130 y337 x5_1).f1.f1, wrap64 ((wrap64 ((wrap64 ((wrap64 ((wrap64 (x1_1 + 1)) + 1)) + 1)) + 1)) + 1)⟩ : S94)⟩ : S130)) (wrap64 ((wrap64 ((wrap64 ((wrap64 ((wrap64 ((wrap64 (x1_1 + 1)) + 1)) + 1)) + 1)) + 1)) + 1)) (wrap64 (x5_1 + 1))))))) = some (r1, r2) := by first | (rw [hy333]; with_reducible exact H) | (have H2_ := (Option.bind_some _ _).symm.trans H; rw [hy333]; with_reducible exact H2_) | (have H2_ := (Option.bind_some _ _).symm.trans H; with_reducible exact H2_) | with_reducible exact H | (rw [hy333]; exact H) | exact H
          have Ny333 := Aside0.mk hy333
          clear hy333
          obtain ⟨y334, hy334⟩ : ∃ y_ : List (S130), y_ = (y333.set (x5_1 : Int).toNat (⟨(⟨(rd_T130 y333 x5_1).f0.f0, wrap64 (x1_1 + 1), (rd_T130 y333 x5_1).f0.f2⟩ : S94), (⟨(rd_T130 y333 x5_1).f1.f0, (rd_T130 y333 x5_1).f1.f1, (rd_T130 y333 x5_1).f1.f2⟩ : S94)⟩ : S130)) := ⟨_, rfl⟩
          replace H : ((some (y334.set (x5_1 : Int).toNat (⟨(⟨(rd_T130 y334 x5_1).f0.f0, (rd_T130 y334 x5_1).f0.f1, wrap64 ((wrap64 (x1_1 + 1)) + 1)⟩ : S94), (⟨(rd_T130 y334 x5_1).f1.f0, (rd_T130 y334 x5_1).f1.f1, (rd_T130 y334 x5_1).f1.f2⟩ : S94)⟩ : S130) : List (S130))).bind fun y335 => ((some (y335.set (x5_1 : Int).toNat (⟨(⟨(rd_T130 y335 x5_1).f0.f0, (rd_T130 y335 x5_1).f0.f1, (rd_T130 y335 x5_1).f0.f2⟩ : S94), (⟨wrap64 ((wrap64 ((wrap64 (x1_1 + 1)) + 1)) + 1), (rd_T130 y335 x5_1).f1.f1, (rd_T130 y335 x5_1).f1.f2⟩ : S94)⟩ : S130) : List (S130))).bind fun y336 => ((some (y336.set (x5_1 : Int).toNat (⟨(⟨(rd_T130 y336 x5_1).f0.f0, (rd_T130 y336 x5_1).f0.f1, (rd_T130 y336 x5_1).f0.f2⟩ : S94), (⟨(rd_T130 y336 x5_1).f1.f0, wrap64 ((wrap64 ((wrap64 ((wrap64 (x1_1 + 1)) + 1)) + 1)) + 1), (rd_T130 y336 x5_1).f1.f2⟩ : S94)⟩ : S130) : List (S130))).bind fun y337 => (laws_markPointS.l0 k1 (y337.set (x5_1 : Int).toNat (⟨(⟨(rd_T130 y337 x5_1).f0.f0, (rd_T130 y337 x5_1).f0.f1, (rd_T130 y337 x5_1).f0.f2⟩ : S94), (⟨(rd_T130 y337 x5_1).f1.f0, (rd_T130 y337 x5_1).f1.f1, wrap64 ((wrap64 ((wrap64 ((wrap64 ((wrap64 (x1_1 + 1)) + 1)) + 1)) + 1)) + 1)⟩ : S94)⟩ : S130)) (wrap64 ((wrap64 ((wrap64 ((wrap64 ((wrap64 ((wrap64 (x1_1 + 1)) + 1)) + 1)) + 1)) + 1)) + 1)) (wrap64 (x5_1 + 1)))))) = some (r1, r2) := by first | (rw [hy334]; with_reducible exact H) | (have H2_ := (Option.bind_some _ _).symm.trans H; rw [hy334]; with_reducible exact H2_) | (have H2_ := (Option.bind_some _ _).symm.trans H; with_reducible exact H2_) | with_reducible exact H | (rw [hy334]; exact H) | exact H
          have Ny334 := Aside0.mk hy334
          clear hy334
          obtain ⟨y335, hy335⟩ : ∃ y_ : List (S130), y_ = (y334.set (x5_1 : Int).toNat (⟨(⟨(rd_T130 y334 x5_1).f0.f0, (rd_T130 y334 x5_1).f0.f1, wrap64 ((wrap64 (x1_1 + 1)) + 1)⟩ : S94), (⟨(rd_T130 y334 x5_1).f1.f0, (rd_T130 y334 x5_1).f1.f1, (rd_T130 y334 x5_1).f1.f2⟩ : S94)⟩ : S130)) := ⟨_, rfl⟩
          replace H : ((some (y335.set (x5_1 : Int).toNat (⟨(⟨(rd_T130 y335 x5_1).f0.f0, (rd_T130 y335 x5_1).f0.f1, (rd_T130 y335 x5_1).f0.f2⟩ : S94), (⟨wrap64 ((wrap64 ((wrap64 (x1_1 + 1)) + 1)) + 1), (rd_T130 y335 x5_1).f1.f1, (rd_T130 y335 x5_1).f1.f2⟩ : S94)⟩ : S130) : List (S130))).bind fun y336 => ((some (y336.set (x5_1 : Int).toNat (⟨(⟨(rd_T130 y336 x5_1).f0.f0, (rd_T130 y336 x5_1).f0.f1, (rd_T130 y336 x5_1).f0.f2⟩ : S94), (⟨(rd_T130 y336 x5_1).f1.f0, wrap64 ((wrap64 ((wrap64 ((wrap64 (x1_1 + 1)) + 1)) + 1)) + 1), (rd_T130 y336 x5_1).f1.f2⟩ : S94)⟩ : S130) : List (S130))).bind fun y337 => (laws_markPointS.l0 k1 (y337.set (x5_1 : Int).toNat (⟨(⟨(rd_T130 y337 x5_1).f0.f0, (rd_T130 y337 x5_1).f0.f1, (rd_T130 y337 x5_1).f0.f2⟩ : S94), (⟨(rd_T130 y337 x5_1).f1.f0, (rd_T130 y337 x5_1).f1.f1, wrap64 ((wrap64 ((wrap64 ((wrap64 ((wrap64 (x1_1 + 1)) + 1)) + 1)) + 1)) + 1)⟩ : S94)⟩ : S130)) (wrap64 ((wrap64 ((wrap64 ((wrap64 ((wrap64 ((wrap64 (x1_1 + 1)) + 1)) + 1)) + 1)) + 1)) + 1)) (wrap64 (x5_1 + 1))))) = some (r1, r2) := by first | (rw [hy335]; with_reducible exact H) | (have H2_ := (Option.bind_some _ _).symm.trans H; rw [hy335]; with_reducible exact H2_) | (have H2_ := (Option.bind_some _ _).symm.trans H; with_reducible exact H2_) | with_reducible exact H | (rw [hy335]; exact H) | exact H
          have Ny335 := Aside0.mk hy335
          clear hy335
          obtain ⟨y336, hy336⟩ : ∃ y_ : List (S130), y_ = (y335.set (x5_1 : Int).toNat (⟨(⟨(rd_T130 y335 x5_1).f0.f0, (rd_T130 y335 x5_1).f0.f1, (rd_T130 y335 x5_1).f0.f2⟩ : S94), (⟨wrap64 ((wrap64 ((wrap64 (x1_1 + 1)) + 1)) + 1), (rd_T130 y335 x5_1).f1.f1, (rd_T130 y335 x5_1).f1.f2⟩ : S94)⟩ : S130)) := ⟨_, rfl⟩
          replace H : ((some (y336.set (x5_1 : Int).toNat (⟨(⟨(rd_T130 y336 x5_1).f0.f0, (rd_T130 y336 x5_1).f0.f1, (rd_T130 y336 x5_1).f0.f2⟩ : S94), (⟨(rd_T130 y336 x5_1).f1.f0, wrap64 ((wrap64 ((wrap64 ((wrap64 (x1_1 + 1)) + 1)) + 1)) + 1), (rd_T130 y336 x5_1).f1.f2⟩ : S94)⟩ : S130) : List (S130))).bind fun y337 => (laws_markPointS.l0 k1 (y337.set (x5_1 : Int).toNat (⟨(⟨(rd_T130 y337 x5_1).f0.f0, (rd_T130 y337 x5_1).f0.f1, (rd_T130 y337 x5_1).f0.f2⟩ : S94), (⟨(rd_T130 y337 x5_1).f1.f0, (rd_T130 y337 x5_1).f1.f1, wrap64 ((wrap64 ((wrap64 ((wrap64 ((wrap64 (x1_1 + 1)) + 1)) + 1)) + 1)) + 1)⟩ : S94)⟩ : S130)) (wrap64 ((wrap64 ((wrap64 ((wrap64 ((wrap64 ((wrap64 (x1_1 + 1)) + 1)) + 1)) + 1)) + 1)) + 1)) (wrap64 (x5_1 + 1)))) = some (r1, r2) := by first | (rw [hy336]; with_reducible exact H) | (have H2_ := (Option.bind_some _ _).symm.trans H; rw [hy336]; with_reducible exact H2_) | (have H2_ := (Option.bind_some _ _).symm.trans H; with_reducible exact H2_) | with_reducible exact H | (rw [hy336]; exact H) | exact H
          have Ny336 := Aside0.mk hy336
          clear hy336
          obtain ⟨y337, hy337⟩ : ∃ y_ : List (S130), y_ = (y336.set (x5_1 : Int).toNat (⟨(⟨(rd_T130 y336 x5_1).f0.f0, (rd_T130 y336 x5_1).f0.f1, (rd_T130 y336 x5_1).f0.f2⟩ : S94), (⟨(rd_T130 y336 x5_1).f1.f0, wrap64 ((wrap64 ((wrap64 ((wrap64 (x1_1 + 1)) + 1)) + 1)) + 1), (rd_T130 y336 x5_1).f1.f2⟩ : S94)⟩ : S130)) := ⟨_, rfl⟩
          replace H : (laws_markPointS.l0 k1 (y337.set (x5_1 : Int).toNat (⟨(⟨(rd_T130 y337 x5_1).f0.f0, (rd_T130 y337 x5_1).f0.f1, (rd_T130 y337 x5_1).f0.f2⟩ : S94), (⟨(rd_T130 y337 x5_1).f1.f0, (rd_T130 y337 x5_1).f1.f1, wrap64 ((wrap64 ((wrap64 ((wrap64 ((wrap64 (x1_1 + 1)) + 1)) + 1)) + 1)) + 1)⟩ : S94)⟩ : S130)) (wrap64 ((wrap64 ((wrap64 ((wrap64 ((wrap64 ((wrap64 (x1_1 + 1)) + 1)) + 1)) + 1)) + 1)) + 1)) (wrap64 (x5_1 + 1))) = some (r1, r2) := by first | (rw [hy337]; with_reducible exact H) | (have H2_ := (Option.bind_some _ _).symm.trans H; rw [hy337]; with_reducible exact H2_) | (have H2_ := (Option.bind_some _ _).symm.trans H; with_reducible exact H2_) | with_reducible exact H | (rw [hy337]; exact H) | exact H
          have Ny337 := Aside0.mk hy337
          clear hy337
          obtain ⟨y338, hy338⟩ : ∃ y_ : List (S130), y_ = (y337.set (x5_1 : Int).toNat (⟨(⟨(rd_T130 y337 x5_1).f0.f0, (rd_T130 y337 x5_1).f0.f1, (rd_T130 y337 x5_1).f0.f2⟩ : S94), (⟨(rd_T130 y337 x5_1).f1.f0, (rd_T130 y337 x5_1).f1.f1, wrap64 ((wrap64 ((wrap64 ((wrap64 ((wrap64 (x1_1 + 1)) + 1)) + 1)) + 1)) + 1)⟩ : S94)⟩ : S130)) := ⟨_, rfl⟩
          replace H : (laws_markPointS.l0 k1 y338 (wrap64 ((wrap64 ((wrap64 ((wrap64 ((wrap64 ((wrap64 (x1_1 + 1)) + 1)) + 1)) + 1)) + 1)) + 1)) (wrap64 (x5_1 + 1))) = some (r1, r2) := by first | (rw [hy338]; with_reducible exact H) | (have H2_ := (Option.bind_some _ _).symm.trans H; rw [hy338]; with_reducible exact H2_) | (have H2_ := (Option.bind_some _ _).symm.trans H; with_reducible exact H2_) | with_reducible exact H | (rw [hy338]; exact H) | exact H
          have Ny338 := Aside0.mk hy338
          clear hy338
          have H' := Aside0.mk H
          clear H
          obtain ⟨Ao11, co11, eo11⟩ := Kd.R_slice HO_0.out
          subst eo11
          have p5 : 0 ≤ (x5_1 : Int) := od
          have q5 : (x5_1 : Int) < ((x0_1.length : Int) : Int) := od
          obtain ⟨go5, co5, eo5, gb5, gl5, cl5, HG5⟩ := Kd.R_form HO_0.out (by omega)
          (first | cases eo5 | (injection eo5 with ea_ en_ ec_; (first | subst ea_ | (injection ea_ with ea_; subst ea_)); subst ec_; clear en_))
          have GB5 := Aside0.mk gb5
          have GG5 := Aside0.mk HG5
          clear gb5 gl5 HG5
          have HMgo5 := Aside0.mk (show (P0_ go5 ∨ w.heap.size ≤ go5) from (HO_0.out.1 _ rfl))
          obtain ⟨ce5, hcl5, hM5, hcc5, hfr5⟩ := Kd.R_elem HO_0.out z130 (x5_1 : Int) p5 q5
          obtain rfl := k130_openM hM5
          have hx5_0 : wr.cell? ⟨go5, (x5_1 : Int).toNat * 6, none⟩ = some (.int .i64 ((rd_T130 x0_1 x5_1).f0.f0)) := hcc5 0 _ rfl
          have hx5_1 : wr.cell? ⟨go5, (x5_1 : Int).toNat * 6 + 1, none⟩ = some (.int .i64 ((rd_T130 x0_1 x5_1).f0.f1)) := hcc5 1 _ rfl
          have hx5_2 : wr.cell? ⟨go5, (x5_1 : Int).toNat * 6 + 2, none⟩ = some (.int .i64 ((rd_T130 x0_1 x5_1).f0.f2)) := hcc5 2 _ rfl
          have hx5_3 : wr.cell? ⟨go5, (x5_1 : Int).toNat * 6 + 3, none⟩ = some (.int .i64 ((rd_T130 x0_1 x5_1).f1.f0)) := hcc5 3 _ rfl
          have hx5_4 : wr.cell? ⟨go5, (x5_1 : Int).toNat * 6 + 4, none⟩ = some (.int .i64 ((rd_T130 x0_1 x5_1).f1.f1)) := hcc5 4 _ rfl
          have hx5_5 : wr.cell? ⟨go5, (x5_1 : Int).toNat * 6 + 5, none⟩ = some (.int .i64 ((rd_T130 x0_1 x5_1).f1.f2)) := hcc5 5 _ rfl
          have hf5_0 : wr.frozen? ⟨go5, (x5_1 : Int).toNat * 6, none⟩ = false := hfr5 0
          have hf5_1 : wr.frozen? ⟨go5, (x5_1 : Int).toNat * 6 + 1, none⟩ = false := hfr5 1
          have hf5_2 : wr.frozen? ⟨go5, (x5_1 : Int).toNat * 6 + 2, none⟩ = false := hfr5 2
          have hf5_3 : wr.frozen? ⟨go5, (x5_1 : Int).toNat * 6 + 3, none⟩ = false := hfr5 3
          have hf5_4 : wr.frozen? ⟨go5, (x5_1 : Int).toNat * 6 + 4, none⟩ = false := hfr5 4
          have hf5_5 : wr.frozen? ⟨go5, (x5_1 : Int).toNat * 6 + 5, none⟩ = false := hfr5 5
          clear hcl5 hcc5 hfr5 hM5
          replace p5 := eq_true p5
          replace q5 := eq_true q5
          have HX12 := Aside0.mk (show Kd.R k130 130 wr w0.heap.size (fun k_ => (P0_ k_ ∨ w.heap.size ≤ k_)) (.slice (some ⟨go5, 0, none⟩) x0_1.length co11) x0_1 from (ra (h := HO_0.out)))
          obtain ⟨ce12, hcl12, hM12, hcc12, hfr12⟩ := Kd.R_elem HX12.out z130 (x5_1 : Int) (od) (by have h_ : (x5_1 : Int) < ((x0_1.length : Int) : Int) := od; first | exact h_ | (have e_ := (Kd.R_reads' HO_0.out).1; omega) | simpa using h_)
          obtain rfl := k130_openM hM12
          have HP12 := Kd.R_seg HX12.out (x5_1 : Int) (od) (by have h_ : (x5_1 : Int) < ((x0_1.length : Int) : Int) := od; first | exact h_ | (have e_ := (Kd.R_reads' HO_0.out).1; omega) | simpa using h_) (seg := [.int .i64 x1_1]) (j := 0) hcl12 hcc12 (show 1 ≤ 6 from by decide) (x' := (⟨(⟨x1_1, (rd_T130 x0_1 x5_1).f0.f1, (rd_T130 x0_1 x5_1).f0.f2⟩ : S94), (⟨(rd_T130 x0_1 x5_1).f1.f0, (rd_T130 x0_1 x5_1).f1.f1, (rd_T130 x0_1 x5_1).f1.f2⟩ : S94)⟩ : S130)) (k130_mkM _ _ _ (⟨(⟨x1_1, (rd_T130 x0_1 x5_1).f0.f1, (rd_T130 x0_1 x5_1).f0.f2⟩ : S94), (⟨(rd_T130 x0_1 x5_1).f1.f0, (rd_T130 x0_1 x5_1).f1.f1, (rd_T130 x0_1 x5_1).f1.f2⟩ : S94)⟩ : S130) ) (fun _ hk => hk)
          have hx12_0 := hcc12 0 _ rfl
          (try simp only [show (k130).sz = 6 from rfl, Nat.mul_one, Nat.add_zero] at hx12_0)
          have hf12_0 := hfr12 0
          (try simp only [show (k130).sz = 6 from rfl, Nat.mul_one, Nat.add_zero] at hf12_0)
          clear hcl12 hcc12 hfr12 hM12
          go_wp2_with (first | ((with_reducible refine gate_store (t := 2) (p := 17) rfl ?_); refine store_event (t := 2) (p := 17) (v := ?vo_w13) (w1 := (wr.setCell ⟨go5, (x5_1 : Int).toNat * 6, none⟩ (.int .i64 x1_1))) ?hg ?ho ?hn ?hr ?_; (case ho => rfl); (case hg => rfl); (case hn => rfl); (case hr => first | (go_simp; done) | (go_simp; rfl)); intro w13 hw; have hg : wr.grownBy w13 (some go5) := (by rw [hw]; exact HP12.2); have hp_ : Kd.R k130 130 w13 w0.heap.size (fun k_ => (P0_ k_ ∨ w.heap.size ≤ k_)) (.slice (some ⟨go5, 0, none⟩) x0_1.length co11) y333 := (by rw [hw, Ny333.out]; exact HP12.1); clear HP12; replace HB := Aside0.mk ((by rw [hw]; exact below_set (HB.out) GB5.out : Below w0.heap.size w0 w13)); replace HK := Aside0.mk (Kept.of_grown (S := (fun k_ => P0_ k_)) hg (by repeat (first | (with_reducible first | exact HK.out | apply Kept.alloc | apply Kept.drewN | apply Kept.drew) | exact HK.out)) (fun k_ e_ => (HO_0.out.1 k_ e_))); replace HO_0 := Aside0.mk (hp_); clear hg hw hp_; have p6 : 0 ≤ (x5_1 : Int) := od; have q6 : (x5_1 : Int) < ((x0_1.length : Int) : Int) := od; obtain ⟨ce6, hcl6, hM6, hcc6, hfr6⟩ := Kd.R_elem HO_0.out z130 (x5_1 : Int) p6 q6; obtain rfl := k130_openM hM6; have hx6_0 : w13.cell? ⟨go5, (x5_1 : Int).toNat * 6, none⟩ = some (.int .i64 ((rd_T130 y333 x5_1).f0.f0)) := hcc6 0 _ rfl; have hx6_1 : w13.cell? ⟨go5, (x5_1 : Int).toNat * 6 + 1, none⟩ = some (.int .i64 ((rd_T130 y333 x5_1).f0.f1)) := hcc6 1 _ rfl; have hx6_2 : w13.cell? ⟨go5, (x5_1 : Int).toNat * 6 + 2, none⟩ = some (.int .i64 ((rd_T130 y333 x5_1).f0.f2)) := hcc6 2 _ rfl; have hx6_3 : w13.cell? ⟨go5, (x5_1 : Int).toNat * 6 + 3, none⟩ = some (.int .i64 ((rd_T130 y333 x5_1).f1.f0)) := hcc6 3 _ rfl; have hx6_4 : w13.cell? ⟨go5, (x5_1 : Int).toNat * 6 + 4, none⟩ = some (.int .i64 ((rd_T130 y333 x5_1).f1.f1)) := hcc6 4 _ rfl; have hx6_5 : w13.cell? ⟨go5, (x5_1 : Int).toNat * 6 + 5, none⟩ = some (.int .i64 ((rd_T130 y333 x5_1).f1.f2)) := hcc6 5 _ rfl; have hf6_0 : w13.frozen? ⟨go5, (x5_1 : Int).toNat * 6, none⟩ = false := hfr6 0; have hf6_1 : w13.frozen? ⟨go5, (x5_1 : Int).toNat * 6 + 1, none⟩ = false := hfr6 1; have hf6_2 : w13.frozen? ⟨go5, (x5_1 : Int).toNat * 6 + 2, none⟩ = false := hfr6 2; have hf6_3 : w13.frozen? ⟨go5, (x5_1 : Int).toNat * 6 + 3, none⟩ = false := hfr6 3; have hf6_4 : w13.frozen? ⟨go5, (x5_1 : Int).toNat * 6 + 4, none⟩ = false := hfr6 4; have hf6_5 : w13.frozen? ⟨go5, (x5_1 : Int).toNat * 6 + 5, none⟩ = false := hfr6 5; clear hcl6 hcc6 hfr6 hM6; replace p6 := eq_true p6; replace q6 := eq_true q6; have HX14 := Aside0.mk (show Kd.R k130 130 w13 w0.heap.size (fun k_ => (P0_ k_ ∨ w.heap.size ≤ k_)) (.slice (some ⟨go5, 0, none⟩) x0_1.length co11) y333 from (ra (h := HO_0.out))); obtain ⟨ce14, hcl14, hM14, hcc14, hfr14⟩ := Kd.R_elem HX14.out z130 (x5_1 : Int) (od) (by have h_ : (x5_1 : Int) < ((x0_1.length : Int) : Int) := od; first | exact h_ | (have e_ := (Kd.R_reads' HO_0.out).1; omega) | simpa using h_); obtain rfl := k130_openM hM14; have HP14 := Kd.R_seg HX14.out (x5_1 : Int) (od) (by have h_ : (x5_1 : Int) < ((x0_1.length : Int) : Int) := od; first | exact h_ | (have e_ := (Kd.R_reads' HO_0.out).1; omega) | simpa using h_) (seg := [.int .i64 (wrap64 (x1_1 + 1))]) (j := 1) hcl14 hcc14 (show 2 ≤ 6 from by decide) (x' := (⟨(⟨(rd_T130 y333 x5_1).f0.f0, wrap64 (x1_1 + 1), (rd_T130 y333 x5_1).f0.f2⟩ : S94), (⟨(rd_T130 y333 x5_1).f1.f0, (rd_T130 y333 x5_1).f1.f1, (rd_T130 y333 x5_1).f1.f2⟩ : S94)⟩ : S130)) (k130_mkM _ _ _ (⟨(⟨(rd_T130 y333 x5_1).f0.f0, wrap64 (x1_1 + 1), (rd_T130 y333 x5_1).f0.f2⟩ : S94), (⟨(rd_T130 y333 x5_1).f1.f0, (rd_T130 y333 x5_1).f1.f1, (rd_T130 y333 x5_1).f1.f2⟩ : S94)⟩ : S130) ) (fun _ hk => hk); have hx14_1 := hcc14 1 _ rfl; (try simp only [show (k130).sz = 6 from rfl, Nat.mul_one, Nat.add_zero] at hx14_1); have hf14_1 := hfr14 1; (try simp only [show (k130).sz = 6 from rfl, Nat.mul_one, Nat.add_zero] at hf14_1); clear hcl14 hcc14 hfr14 hM14) | ((with_reducible refine gate_store (t := 2) (p := 25) rfl ?_); refine store_event (t := 2) (p := 25) (v := ?vo_w15) (w1 := (w13.setCell ⟨go5, (x5_1 : Int).toNat * 6 + 1, none⟩ (.int .i64 (wrap64 (x1_1 + 1))))) ?hg ?ho ?hn ?hr ?_; (case ho => rfl); (case hg => rfl); (case hn => rfl); (case hr => first | (go_simp; done) | (go_simp; rfl)); intro w15 hw; have hg : w13.grownBy w15 (some go5) := (by rw [hw]; exact HP14.2); have hp_ : Kd.R k130 130 w15 w0.heap.size (fun k_ => (P0_ k_ ∨ w.heap.size ≤ k_)) (.slice (some ⟨go5, 0, none⟩) x0_1.length co11) y334 := (by rw [hw, Ny334.out]; exact HP14.1); clear HP14; replace HB := Aside0.mk ((by rw [hw]; exact below_set (HB.out) GB5.out : Below w0.heap.size w0 w15)); replace HK := Aside0.mk (Kept.of_grown (S := (fun k_ => P0_ k_)) hg (by repeat (first | (with_reducible first | exact HK.out | apply Kept.alloc | apply Kept.drewN | apply Kept.drew) | exact HK.out)) (fun k_ e_ => (HO_0.out.1 k_ e_))); replace HO_0 := Aside0.mk (hp_); clear hg hw hp_; have p7 : 0 ≤ (x5_1 : Int) := od; have q7 : (x5_1 : Int) < ((x0_1.length : Int) : Int) := od; obtain ⟨ce7, hcl7, hM7, hcc7, hfr7⟩ := Kd.R_elem HO_0.out z130 (x5_1 : Int) p7 q7; obtain rfl := k130_openM hM7; have hx7_0 : w15.cell? ⟨go5, (x5_1 : Int).toNat * 6, none⟩ = some (.int .i64 ((rd_T130 y334 x5_1).f0.f0)) := hcc7 0 _ rfl; have hx7_1 : w15.cell? ⟨go5, (x5_1 : Int).toNat * 6 + 1, none⟩ = some (.int .i64 ((rd_T130 y334 x5_1).f0.f1)) := hcc7 1 _ rfl; have hx7_2 : w15.cell? ⟨go5, (x5_1 : Int).toNat * 6 + 2, none⟩ = some (.int .i64 ((rd_T130 y334 x5_1).f0.f2)) := hcc7 2 _ rfl; have hx7_3 : w15.cell? ⟨go5, (x5_1 : Int).toNat * 6 + 3, none⟩ = some (.int .i64 ((rd_T130 y334 x5_1).f1.f0)) := hcc7 3 _ rfl; have hx7_4 : w15.cell? ⟨go5, (x5_1 : Int).toNat * 6 + 4, none⟩ = some (.int .i64 ((rd_T130 y334 x5_1).f1.f1)) := hcc7 4 _ rfl; have hx7_5 : w15.cell? ⟨go5, (x5_1 : Int).toNat * 6 + 5, none⟩ = some (.int .i64 ((rd_T130 y334 x5_1).f1.f2)) := hcc7 5 _ rfl; have hf7_0 : w15.frozen? ⟨go5, (x5_1 : Int).toNat * 6, none⟩ = false := hfr7 0; have hf7_1 : w15.frozen? ⟨go5, (x5_1 : Int).toNat * 6 + 1, none⟩ = false := hfr7 1; have hf7_2 : w15.frozen? ⟨go5, (x5_1 : Int).toNat * 6 + 2, none⟩ = false := hfr7 2; have hf7_3 : w15.frozen? ⟨go5, (x5_1 : Int).toNat * 6 + 3, none⟩ = false := hfr7 3; have hf7_4 : w15.frozen? ⟨go5, (x5_1 : Int).toNat * 6 + 4, none⟩ = false := hfr7 4; have hf7_5 : w15.frozen? ⟨go5, (x5_1 : Int).toNat * 6 + 5, none⟩ = false := hfr7 5; clear hcl7 hcc7 hfr7 hM7; replace p7 := eq_true p7; replace q7 := eq_true q7; have HX16 := Aside0.mk (show Kd.R k130 130 w15 w0.heap.size (fun k_ => (P0_ k_ ∨ w.heap.size ≤ k_)) (.slice (some ⟨go5, 0, none⟩) x0_1.length co11) y334 from (ra (h := HO_0.out))); obtain ⟨ce16, hcl16, hM16, hcc16, hfr16⟩ := Kd.R_elem HX16.out z130 (x5_1 : Int) (od) (by have h_ : (x5_1 : Int) < ((x0_1.length : Int) : Int) := od; first | exact h_ | (have e_ := (Kd.R_reads' HO_0.out).1; omega) | simpa using h_); obtain rfl := k130_openM hM16; have HP16 := Kd.R_seg HX16.out (x5_1 : Int) (od) (by have h_ : (x5_1 : Int) < ((x0_1.length : Int) : Int) := od; first | exact h_ | (have e_ := (Kd.R_reads' HO_0.out).1; omega) | simpa using h_) (seg := [.int .i64 (wrap64 ((wrap64 (x1_1 + 1)) + 1))]) (j := 2) hcl16 hcc16 (show 3 ≤ 6 from by decide) (x' := (⟨(⟨(rd_T130 y334 x5_1).f0.f0, (rd_T130 y334 x5_1).f0.f1, wrap64 ((wrap64 (x1_1 + 1)) + 1)⟩ : S94), (⟨(rd_T130 y334 x5_1).f1.f0, (rd_T130 y334 x5_1).f1.f1, (rd_T130 y334 x5_1).f1.f2⟩ : S94)⟩ : S130)) (k130_mkM _ _ _ (⟨(⟨(rd_T130 y334 x5_1).f0.f0, (rd_T130 y334 x5_1).f0.f1, wrap64 ((wrap64 (x1_1 + 1)) + 1)⟩ : S94), (⟨(rd_T130 y334 x5_1).f1.f0, (rd_T130 y334 x5_1).f1.f1, (rd_T130 y334 x5_1).f1.f2⟩ : S94)⟩ : S130) ) (fun _ hk => hk); have hx16_2 := hcc16 2 _ rfl; (try simp only [show (k130).sz = 6 from rfl, Nat.mul_one, Nat.add_zero] at hx16_2); have hf16_2 := hfr16 2; (try simp only [show (k130).sz = 6 from rfl, Nat.mul_one, Nat.add_zero] at hf16_2); clear hcl16 hcc16 hfr16 hM16) | ((with_reducible refine gate_store (t := 2) (p := 33) rfl ?_); refine store_event (t := 2) (p := 33) (v := ?vo_w17) (w1 := (w15.setCell ⟨go5, (x5_1 : Int).toNat * 6 + 2, none⟩ (.int .i64 (wrap64 ((wrap64 (x1_1 + 1)) + 1))))) ?hg ?ho ?hn ?hr ?_; (case ho => rfl); (case hg => rfl); (case hn => rfl); (case hr => first | (go_simp; done) | (go_simp; rfl)); intro w17 hw; have hg : w15.grownBy w17 (some go5) := (by rw [hw]; exact HP16.2); have hp_ : Kd.R k130 130 w17 w0.heap.size (fun k_ => (P0_ k_ ∨ w.heap.size ≤ k_)) (.slice (some ⟨go5, 0, none⟩) x0_1.length co11) y335 := (by rw [hw, Ny335.out]; exact HP16.1); clear HP16; replace HB := Aside0.mk ((by rw [hw]; exact below_set (HB.out) GB5.out : Below w0.heap.size w0 w17)); replace HK := Aside0.mk (Kept.of_grown (S := (fun k_ => P0_ k_)) hg (by repeat (first | (with_reducible first | exact HK.out | apply Kept.alloc | apply Kept.drewN | apply Kept.drew) | exact HK.out)) (fun k_ e_ => (HO_0.out.1 k_ e_))); replace HO_0 := Aside0.mk (hp_); clear hg hw hp_; have p8 : 0 ≤ (x5_1 : Int) := od; have q8 : (x5_1 : Int) < ((x0_1.length : Int) : Int) := od; obtain ⟨ce8, hcl8, hM8, hcc8, hfr8⟩ := Kd.R_elem HO_0.out z130 (x5_1 : Int) p8 q8; obtain rfl := k130_openM hM8; have hx8_0 : w17.cell? ⟨go5, (x5_1 : Int).toNat * 6, none⟩ = some (.int .i64 ((rd_T130 y335 x5_1).f0.f0)) := hcc8 0 _ rfl; have hx8_1 : w17.cell? ⟨go5, (x5_1 : Int).toNat * 6 + 1, none⟩ = some (.int .i64 ((rd_T130 y335 x5_1).f0.f1)) := hcc8 1 _ rfl; have hx8_2 : w17.cell? ⟨go5, (x5_1 : Int).toNat * 6 + 2, none⟩ = some (.int .i64 ((rd_T130 y335 x5_1).f0.f2)) := hcc8 2 _ rfl; have hx8_3 : w17.cell? ⟨go5, (x5_1 : Int).toNat * 6 + 3, none⟩ = some (.int .i64 ((rd_T130 y335 x5_1).f1.f0)) := hcc8 3 _ rfl; have hx8_4 : w17.cell? ⟨go5, (x5_1 : Int).toNat * 6 + 4, none⟩ = some (.int .i64 ((rd_T130 y335 x5_1).f1.f1)) := hcc8 4 _ rfl; have hx8_5 : w17.cell? ⟨go5, (x5_1 : Int).toNat * 6 + 5, none⟩ = some (.int .i64 ((rd_T130 y335 x5_1).f1.f2)) := hcc8 5 _ rfl; have hf8_0 : w17.frozen? ⟨go5, (x5_1 : Int).toNat * 6, none⟩ = false := hfr8 0; have hf8_1 : w17.frozen? ⟨go5, (x5_1 : Int).toNat * 6 + 1, none⟩ = false := hfr8 1; have hf8_2 : w17.frozen? ⟨go5, (x5_1 : Int).toNat * 6 + 2, none⟩ = false := hfr8 2; have hf8_3 : w17.frozen? ⟨go5, (x5_1 : Int).toNat * 6 + 3, none⟩ = false := hfr8 3; have hf8_4 : w17.frozen? ⟨go5, (x5_1 : Int).toNat * 6 + 4, none⟩ = false := hfr8 4; have hf8_5 : w17.frozen? ⟨go5, (x5_1 : Int).toNat * 6 + 5, none⟩ = false := hfr8 5; clear hcl8 hcc8 hfr8 hM8; replace p8 := eq_true p8; replace q8 := eq_true q8; have HX18 := Aside0.mk (show Kd.R k130 130 w17 w0.heap.size (fun k_ => (P0_ k_ ∨ w.heap.size ≤ k_)) (.slice (some ⟨go5, 0, none⟩) x0_1.length co11) y335 from (ra (h := HO_0.out))); obtain ⟨ce18, hcl18, hM18, hcc18, hfr18⟩ := Kd.R_elem HX18.out z130 (x5_1 : Int) (od) (by have h_ : (x5_1 : Int) < ((x0_1.length : Int) : Int) := od; first | exact h_ | (have e_ := (Kd.R_reads' HO_0.out).1; omega) | simpa using h_); obtain rfl := k130_openM hM18; have HP18 := Kd.R_seg HX18.out (x5_1 : Int) (od) (by have h_ : (x5_1 : Int) < ((x0_1.length : Int) : Int) := od; first | exact h_ | (have e_ := (Kd.R_reads' HO_0.out).1; omega) | simpa using h_) (seg := [.int .i64 (wrap64 ((wrap64 ((wrap64 (x1_1 + 1)) + 1)) + 1))]) (j := 3) hcl18 hcc18 (show 4 ≤ 6 from by decide) (x' := (⟨(⟨(rd_T130 y335 x5_1).f0.f0, (rd_T130 y335 x5_1).f0.f1, (rd_T130 y335 x5_1).f0.f2⟩ : S94), (⟨wrap64 ((wrap64 ((wrap64 (x1_1 + 1)) + 1)) + 1), (rd_T130 y335 x5_1).f1.f1, (rd_T130 y335 x5_1).f1.f2⟩ : S94)⟩ : S130)) (k130_mkM _ _ _ (⟨(⟨(rd_T130 y335 x5_1).f0.f0, (rd_T130 y335 x5_1).f0.f1, (rd_T130 y335 x5_1).f0.f2⟩ : S94), (⟨wrap64 ((wrap64 ((wrap64 (x1_1 + 1)) + 1)) + 1), (rd_T130 y335 x5_1).f1.f1, (rd_T130 y335 x5_1).f1.f2⟩ : S94)⟩ : S130) ) (fun _ hk => hk); have hx18_3 := hcc18 3 _ rfl; (try simp only [show (k130).sz = 6 from rfl, Nat.mul_one, Nat.add_zero] at hx18_3); have hf18_3 := hfr18 3; (try simp only [show (k130).sz = 6 from rfl, Nat.mul_one, Nat.add_zero] at hf18_3); clear hcl18 hcc18 hfr18 hM18) | ((with_reducible refine gate_store (t := 2) (p := 41) rfl ?_); refine store_event (t := 2) (p := 41) (v := ?vo_w19) (w1 := (w17.setCell ⟨go5, (x5_1 : Int).toNat * 6 + 3, none⟩ (.int .i64 (wrap64 ((wrap64 ((wrap64 (x1_1 + 1)) + 1)) + 1))))) ?hg ?ho ?hn ?hr ?_; (case ho => rfl); (case hg => rfl); (case hn => rfl); (case hr => first | (go_simp; done) | (go_simp; rfl)); intro w19 hw; have hg : w17.grownBy w19 (some go5) := (by rw [hw]; exact HP18.2); have hp_ : Kd.R k130 130 w19 w0.heap.size (fun k_ => (P0_ k_ ∨ w.heap.size ≤ k_)) (.slice (some ⟨go5, 0, none⟩) x0_1.length co11) y336 := (by rw [hw, Ny336.out]; exact HP18.1); clear HP18; replace HB := Aside0.mk ((by rw [hw]; exact below_set (HB.out) GB5.out : Below w0.heap.size w0 w19)); replace HK := Aside0.mk (Kept.of_grown (S := (fun k_ => P0_ k_)) hg (by repeat (first | (with_reducible first | exact HK.out | apply Kept.alloc | apply Kept.drewN | apply Kept.drew) | exact HK.out)) (fun k_ e_ => (HO_0.out.1 k_ e_))); replace HO_0 := Aside0.mk (hp_); clear hg hw hp_; have p9 : 0 ≤ (x5_1 : Int) := od; have q9 : (x5_1 : Int) < ((x0_1.length : Int) : Int) := od; obtain ⟨ce9, hcl9, hM9, hcc9, hfr9⟩ := Kd.R_elem HO_0.out z130 (x5_1 : Int) p9 q9; obtain rfl := k130_openM hM9; have hx9_0 : w19.cell? ⟨go5, (x5_1 : Int).toNat * 6, none⟩ = some (.int .i64 ((rd_T130 y336 x5_1).f0.f0)) := hcc9 0 _ rfl; have hx9_1 : w19.cell? ⟨go5, (x5_1 : Int).toNat * 6 + 1, none⟩ = some (.int .i64 ((rd_T130 y336 x5_1).f0.f1)) := hcc9 1 _ rfl; have hx9_2 : w19.cell? ⟨go5, (x5_1 : Int).toNat * 6 + 2, none⟩ = some (.int .i64 ((rd_T130 y336 x5_1).f0.f2)) := hcc9 2 _ rfl; have hx9_3 : w19.cell? ⟨go5, (x5_1 : Int).toNat * 6 + 3, none⟩ = some (.int .i64 ((rd_T130 y336 x5_1).f1.f0)) := hcc9 3 _ rfl; have hx9_4 : w19.cell? ⟨go5, (x5_1 : Int).toNat * 6 + 4, none⟩ = some (.int .i64 ((rd_T130 y336 x5_1).f1.f1)) := hcc9 4 _ rfl; have hx9_5 : w19.cell? ⟨go5, (x5_1 : Int).toNat * 6 + 5, none⟩ = some (.int .i64 ((rd_T130 y336 x5_1).f1.f2)) := hcc9 5 _ rfl; have hf9_0 : w19.frozen? ⟨go5, (x5_1 : Int).toNat * 6, none⟩ = false := hfr9 0; have hf9_1 : w19.frozen? ⟨go5, (x5_1 : Int).toNat * 6 + 1, none⟩ = false := hfr9 1; have hf9_2 : w19.frozen? ⟨go5, (x5_1 : Int).toNat * 6 + 2, none⟩ = false := hfr9 2; have hf9_3 : w19.frozen? ⟨go5, (x5_1 : Int).toNat * 6 + 3, none⟩ = false := hfr9 3; have hf9_4 : w19.frozen? ⟨go5, (x5_1 : Int).toNat * 6 + 4, none⟩ = false := hfr9 4; have hf9_5 : w19.frozen? ⟨go5, (x5_1 : Int).toNat * 6 + 5, none⟩ = false := hfr9 5; clear hcl9 hcc9 hfr9 hM9; replace p9 := eq_true p9; replace q9 := eq_true q9; have HX20 := Aside0.mk (show Kd.R k130 130 w19 w0.heap.size (fun k_ => (P0_ k_ ∨ w.heap.size ≤ k_)) (.slice (some ⟨go5, 0, none⟩) x0_1.length co11) y336 from (ra (h := HO_0.out))); obtain ⟨ce20, hcl20, hM20, hcc20, hfr20⟩ := Kd.R_elem HX20.out z130 (x5_1 : Int) (od) (by have h_ : (x5_1 : Int) < ((x0_1.length : Int) : Int) := od; first | exact h_ | (have e_ := (Kd.R_reads' HO_0.out).1; omega) | simpa using h_); obtain rfl := k130_openM hM20; have HP20 := Kd.R_seg HX20.out (x5_1 : Int) (od) (by have h_ : (x5_1 : Int) < ((x0_1.length : Int) : Int) := od; first | exact h_ | (have e_ := (Kd.R_reads' HO_0.out).1; omega) | simpa using h_) (seg := [.int .i64 (wrap64 ((wrap64 ((wrap64 ((wrap64 (x1_1 + 1)) + 1)) + 1)) + 1))]) (j := 4) hcl20 hcc20 (show 5 ≤ 6 from by decide) (x' := (⟨(⟨(rd_T130 y336 x5_1).f0.f0, (rd_T130 y336 x5_1).f0.f1, (rd_T130 y336 x5_1).f0.f2⟩ : S94), (⟨(rd_T130 y336 x5_1).f1.f0, wrap64 ((wrap64 ((wrap64 ((wrap64 (x1_1 + 1)) + 1)) + 1)) + 1), (rd_T130 y336 x5_1).f1.f2⟩ : S94)⟩ : S130)) (k130_mkM _ _ _ (⟨(⟨(rd_T130 y336 x5_1).f0.f0, (rd_T130 y336 x5_1).f0.f1, (rd_T130 y336 x5_1).f0.f2⟩ : S94), (⟨(rd_T130 y336 x5_1).f1.f0, wrap64 ((wrap64 ((wrap64 ((wrap64 (x1_1 + 1)) + 1)) + 1)) + 1), (rd_T130 y336 x5_1).f1.f2⟩ : S94)⟩ : S130) ) (fun _ hk => hk); have hx20_4 := hcc20 4 _ rfl; (try simp only [show (k130).sz = 6 from rfl, Nat.mul_one, Nat.add_zero] at hx20_4); have hf20_4 := hfr20 4; (try simp only [show (k130).sz = 6 from rfl, Nat.mul_one, Nat.add_zero] at hf20_4); clear hcl20 hcc20 hfr20 hM20) | ((with_reducible refine gate_store (t := 2) (p := 49) rfl ?_); refine store_event (t := 2) (p := 49) (v := ?vo_w21) (w1 := (w19.setCell ⟨go5, (x5_1 : Int).toNat * 6 + 4, none⟩ (.int .i64 (wrap64 ((wrap64 ((wrap64 ((wrap64 (x1_1 + 1)) + 1)) + 1)) + 1))))) ?hg ?ho ?hn ?hr ?_; (case ho => rfl); (case hg => rfl); (case hn => rfl); (case hr => first | (go_simp; done) | (go_simp; rfl)); intro w21 hw; have hg : w19.grownBy w21 (some go5) := (by rw [hw]; exact HP20.2); have hp_ : Kd.R k130 130 w21 w0.heap.size (fun k_ => (P0_ k_ ∨ w.heap.size ≤ k_)) (.slice (some ⟨go5, 0, none⟩) x0_1.length co11) y337 := (by rw [hw, Ny337.out]; exact HP20.1); clear HP20; replace HB := Aside0.mk ((by rw [hw]; exact below_set (HB.out) GB5.out : Below w0.heap.size w0 w21)); replace HK := Aside0.mk (Kept.of_grown (S := (fun k_ => P0_ k_)) hg (by repeat (first | (with_reducible first | exact HK.out | apply Kept.alloc | apply Kept.drewN | apply Kept.drew) | exact HK.out)) (fun k_ e_ => (HO_0.out.1 k_ e_))); replace HO_0 := Aside0.mk (hp_); clear hg hw hp_; have p10 : 0 ≤ (x5_1 : Int) := od; have q10 : (x5_1 : Int) < ((x0_1.length : Int) : Int) := od; obtain ⟨ce10, hcl10, hM10, hcc10, hfr10⟩ := Kd.R_elem HO_0.out z130 (x5_1 : Int) p10 q10; obtain rfl := k130_openM hM10; have hx10_0 : w21.cell? ⟨go5, (x5_1 : Int).toNat * 6, none⟩ = some (.int .i64 ((rd_T130 y337 x5_1).f0.f0)) := hcc10 0 _ rfl; have hx10_1 : w21.cell? ⟨go5, (x5_1 : Int).toNat * 6 + 1, none⟩ = some (.int .i64 ((rd_T130 y337 x5_1).f0.f1)) := hcc10 1 _ rfl; have hx10_2 : w21.cell? ⟨go5, (x5_1 : Int).toNat * 6 + 2, none⟩ = some (.int .i64 ((rd_T130 y337 x5_1).f0.f2)) := hcc10 2 _ rfl; have hx10_3 : w21.cell? ⟨go5, (x5_1 : Int).toNat * 6 + 3, none⟩ = some (.int .i64 ((rd_T130 y337 x5_1).f1.f0)) := hcc10 3 _ rfl; have hx10_4 : w21.cell? ⟨go5, (x5_1 : Int).toNat * 6 + 4, none⟩ = some (.int .i64 ((rd_T130 y337 x5_1).f1.f1)) := hcc10 4 _ rfl; have hx10_5 : w21.cell? ⟨go5, (x5_1 : Int).toNat * 6 + 5, none⟩ = some (.int .i64 ((rd_T130 y337 x5_1).f1.f2)) := hcc10 5 _ rfl; have hf10_0 : w21.frozen? ⟨go5, (x5_1 : Int).toNat * 6, none⟩ = false := hfr10 0; have hf10_1 : w21.frozen? ⟨go5, (x5_1 : Int).toNat * 6 + 1, none⟩ = false := hfr10 1; have hf10_2 : w21.frozen? ⟨go5, (x5_1 : Int).toNat * 6 + 2, none⟩ = false := hfr10 2; have hf10_3 : w21.frozen? ⟨go5, (x5_1 : Int).toNat * 6 + 3, none⟩ = false := hfr10 3; have hf10_4 : w21.frozen? ⟨go5, (x5_1 : Int).toNat * 6 + 4, none⟩ = false := hfr10 4; have hf10_5 : w21.frozen? ⟨go5, (x5_1 : Int).toNat * 6 + 5, none⟩ = false := hfr10 5; clear hcl10 hcc10 hfr10 hM10; replace p10 := eq_true p10; replace q10 := eq_true q10; have HX22 := Aside0.mk (show Kd.R k130 130 w21 w0.heap.size (fun k_ => (P0_ k_ ∨ w.heap.size ≤ k_)) (.slice (some ⟨go5, 0, none⟩) x0_1.length co11) y337 from (ra (h := HO_0.out))); obtain ⟨ce22, hcl22, hM22, hcc22, hfr22⟩ := Kd.R_elem HX22.out z130 (x5_1 : Int) (od) (by have h_ : (x5_1 : Int) < ((x0_1.length : Int) : Int) := od; first | exact h_ | (have e_ := (Kd.R_reads' HO_0.out).1; omega) | simpa using h_); obtain rfl := k130_openM hM22; have HP22 := Kd.R_seg HX22.out (x5_1 : Int) (od) (by have h_ : (x5_1 : Int) < ((x0_1.length : Int) : Int) := od; first | exact h_ | (have e_ := (Kd.R_reads' HO_0.out).1; omega) | simpa using h_) (seg := [.int .i64 (wrap64 ((wrap64 ((wrap64 ((wrap64 ((wrap64 (x1_1 + 1)) + 1)) + 1)) + 1)) + 1))]) (j := 5) hcl22 hcc22 (show 6 ≤ 6 from by decide) (x' := (⟨(⟨(rd_T130 y337 x5_1).f0.f0, (rd_T130 y337 x5_1).f0.f1, (rd_T130 y337 x5_1).f0.f2⟩ : S94), (⟨(rd_T130 y337 x5_1).f1.f0, (rd_T130 y337 x5_1).f1.f1, wrap64 ((wrap64 ((wrap64 ((wrap64 ((wrap64 (x1_1 + 1)) + 1)) + 1)) + 1)) + 1)⟩ : S94)⟩ : S130)) (k130_mkM _ _ _ (⟨(⟨(rd_T130 y337 x5_1).f0.f0, (rd_T130 y337 x5_1).f0.f1, (rd_T130 y337 x5_1).f0.f2⟩ : S94), (⟨(rd_T130 y337 x5_1).f1.f0, (rd_T130 y337 x5_1).f1.f1, wrap64 ((wrap64 ((wrap64 ((wrap64 ((wrap64 (x1_1 + 1)) + 1)) + 1)) + 1)) + 1)⟩ : S94)⟩ : S130) ) (fun _ hk => hk); have hx22_5 := hcc22 5 _ rfl; (try simp only [show (k130).sz = 6 from rfl, Nat.mul_one, Nat.add_zero] at hx22_5); have hf22_5 := hfr22 5; (try simp only [show (k130).sz = 6 from rfl, Nat.mul_one, Nat.add_zero] at hf22_5); clear hcl22 hcc22 hfr22 hM22) | ((with_reducible refine gate_store (t := 2) (p := 57) rfl ?_); refine store_event (t := 2) (p := 57) (v := ?vo_w23) (w1 := (w21.setCell ⟨go5, (x5_1 : Int).toNat * 6 + 5, none⟩ (.int .i64 (wrap64 ((wrap64 ((wrap64 ((wrap64 ((wrap64 (x1_1 + 1)) + 1)) + 1)) + 1)) + 1))))) ?hg ?ho ?hn ?hr ?_; (case ho => rfl); (case hg => rfl); (case hn => rfl); (case hr => first | (go_simp; done) | (go_simp; rfl)); intro w23 hw; have hg : w21.grownBy w23 (some go5) := (by rw [hw]; exact HP22.2); have hp_ : Kd.R k130 130 w23 w0.heap.size (fun k_ => (P0_ k_ ∨ w.heap.size ≤ k_)) (.slice (some ⟨go5, 0, none⟩) x0_1.length co11) y338 := (by rw [hw, Ny338.out]; exact HP22.1); clear HP22; replace HB := Aside0.mk ((by rw [hw]; exact below_set (HB.out) GB5.out : Below w0.heap.size w0 w23)); replace HK := Aside0.mk (Kept.of_grown (S := (fun k_ => P0_ k_)) hg (by repeat (first | (with_reducible first | exact HK.out | apply Kept.alloc | apply Kept.drewN | apply Kept.drew) | exact HK.out)) (fun k_ e_ => (HO_0.out.1 k_ e_))); replace HO_0 := Aside0.mk (hp_); clear hg hw hp_))
          go_roundg k1
          case measure => have := HK1.out; omega
          case rel => exact ⟨(y338), (wrap64 ((wrap64 ((wrap64 ((wrap64 ((wrap64 ((wrap64 (x1_1 + 1)) + 1)) + 1)) + 1)) + 1)) + 1)), (wrap64 (x5_1 + 1)), (by first | rfl | (simp; done) | (simp [*]; done)), (by first | rfl | (simp; done) | (simp [*]; done)), H', ⟨by have := HK1.out; omega⟩, ⟨by refine ra (h := ?_); exact HO_0.out⟩, ⟨by repeat (first | (with_reducible first | exact HK.out | apply Kept.alloc | apply Kept.drewN | apply Kept.drew) | exact HK.out)⟩, ⟨bw⟩⟩
        · rw [if_neg c4] at H
          exact absurd H (by simp)
      · rw [if_neg c3] at H
        have c3b0 : decide (x5_1 < (x0_1.length : Int)) = false := decide_eq_false c3
        clear c3
        simp only [Option.some.injEq, Prod.mk.injEq] at H
        obtain ⟨rfl, rfl⟩ := H
        obtain ⟨Ao24, co24, eo24⟩ := Kd.R_slice HO_0.out
        subst eo24
        go_wp2
        go_ret
        exact ⟨er, by refine ra (h := ?_); exact HO_0.out, bw, by repeat (first | (with_reducible first | exact HK.out | apply Kept.alloc | apply Kept.drewN | apply Kept.drew) | exact HK.out)⟩

-- NOT PRINTED: function 100 (laws_markFaceS)

-- NOT PRINTED: function 42 (laws_markState)

/-! ### laws_heldInt64S: function 38 -/
def laws_heldInt64S.l0 : Nat → List Int → Int → Int → Option (Int)
  | 0, _, _, _ => none
  | k + 1, x0, x1, x5 => if x5 < (x0.length : Int) then (if 0 ≤ x5 then (if (rd x0 x5) = x1 then (laws_heldInt64S.l0 k x0 (wrap64 (x1 + 1)) (wrap64 (x5 + 1))) else (some (-1))) else (none)) else (some x1)
def laws_heldInt64S.f (k : Nat) (l0 : List Int) (a1 : Int) : Option (Int) := laws_heldInt64S.l0 k l0 a1 0
theorem laws_heldInt64S.mono_l : ∀ k, (∀ y0 y1 y2, LeO (laws_heldInt64S.l0 k y0 y1 y2) (laws_heldInt64S.l0 (k + 1) y0 y1 y2))
  | 0 => fun _ _ _ r h => by simp [laws_heldInt64S.l0] at h
  | k + 1 => by
    have ih0 := laws_heldInt64S.mono_l k
    · intro y0 y1 y2
      unfold laws_heldInt64S.l0
      repeat' first
      | (with_reducible exact ih0 _ _ _)
      | (with_reducible exact LeO.refl _)
      | (with_reducible exact LeO.none _)
      | (with_reducible refine LeO.ite ?_ ?_)
      | (with_reducible refine LeO.bind ?_ (fun _ => ?_))
      | exact ih0 _ _ _
      | exact LeO.none _
      | refine LeO.ite ?_ ?_
      | refine LeO.bind ?_ (fun _ => ?_)
theorem laws_heldInt64S.mono : ∀ a0 a1 k, LeO (laws_heldInt64S.f k a0 a1) (laws_heldInt64S.f (k + 1) a0 a1) := by
  intro a0 a1 k
  have ih0 := laws_heldInt64S.mono_l k
  unfold laws_heldInt64S.f
  repeat' first
      | (with_reducible exact ih0 _ _ _)
      | (with_reducible exact LeO.refl _)
      | (with_reducible exact LeO.none _)
      | (with_reducible refine LeO.ite ?_ ?_)
      | (with_reducible refine LeO.bind ?_ (fun _ => ?_))
      | exact ih0 _ _ _
      | exact LeO.none _
      | refine LeO.ite ?_ ?_
      | refine LeO.bind ?_ (fun _ => ?_)
set_option maxHeartbeats 8000000 in
set_option maxRecDepth 100000 in
theorem laws_heldInt64S.calls (k : Nat) (A0 : Option Addr) (c0 : Nat) (l0 : List Int) (a1 : Int) (r : Int) (w : World) (hr0 : Kd.C (Kd.int .i64) w A0 l0.length l0) (hc0 : l0.length ≤ c0) (h : laws_heldInt64S.f k l0 a1 = some r) :
    Calls Try.prog 38 #[.slice A0 l0.length c0, .int .i64 a1] w fun e w' => e = .returned (.int .i64 r) ∧ Drawn0 w w' := by
  have HR0 := Aside0.mk hr0
  have HC0 := Aside0.mk hc0
  clear hr0 hc0
  have H : (laws_heldInt64S.l0 k l0 a1 0) = some r := h
  clear h
  have H' := Aside0.mk H
  clear H
  go_enter Try.func38, Try.ntmps38
  go_wp2
  go_loopg [1, 5] k (fun kq v1 v5 w' => ∃ (x1_1 : Int) (x5_1 : Int), v1 = .int .i64 x1_1 ∧ v5 = .int .i64 x5_1 ∧ Aside0 (laws_heldInt64S.l0 kq l0 x1_1 x5_1 = some r) ∧ Aside0 (kq ≤ k) ∧ Drawn0 w w')
  case atStart => exact ⟨(a1), (0), (by first | rfl | (simp; done) | (simp [*]; done)), (by first | rfl | (simp; done) | (simp [*]; done)), H', ⟨Nat.le_refl _⟩, by repeat (first | exact Drawn0.refl _ | apply Drawn0.step)⟩
  case round =>
    clear H'
    try clear p2
    obtain ⟨x1_1, x5_1, rfl, rfl, HA, HK1, ⟨m1, rfl⟩⟩ := hrel
    cases gk with
    | zero => exact absurd HA.out (by simp [laws_heldInt64S.l0])
    | succ k1 =>
      have H := HA.out
      clear HA
      simp only [laws_heldInt64S.l0] at H
      by_cases c3 : x5_1 < (l0.length : Int)
      · rw [if_pos c3] at H
        have c3b0 : decide (x5_1 < (l0.length : Int)) = true := decide_eq_true c3
        clear c3
        by_cases c4 : 0 ≤ x5_1
        · rw [if_pos c4] at H
          have c4b0 : decide (0 ≤ x5_1) = true := decide_eq_true c4
          clear c4
          by_cases c5 : (rd l0 x5_1) = x1_1
          · rw [if_pos c5] at H
            have c5b0 : ((rd l0 x5_1) == x1_1) = true := beq_iff_eq.mpr c5
            have c5b1 : ((rd l0 x5_1) != x1_1) = false := bne_eq_false_iff_eq.mpr c5
            clear c5
            have H' := Aside0.mk H
            clear H
            have p343 : 0 ≤ (x5_1 : Int) := od
            have q343 : x5_1 < (l0.length : Int) := od
            obtain ⟨ad343, e343, hx343_0⟩ := Kd.at_int HR0.out x5_1 p343 q343
            cases e343
            replace p343 := eq_true p343
            replace q343 := eq_true q343
            go_wp2
            go_roundg k1
            case measure => have := HK1.out; omega
            case rel => exact ⟨(wrap64 (x1_1 + 1)), (wrap64 (x5_1 + 1)), (by first | rfl | (simp; done) | (simp [*]; done)), (by first | rfl | (simp; done) | (simp [*]; done)), H', ⟨by have := HK1.out; omega⟩, by repeat (first | exact Drawn0.refl _ | apply Drawn0.step)⟩
          · rw [if_neg c5] at H
            have c5b0 : ((rd l0 x5_1) == x1_1) = false := beq_eq_false_iff_ne.mpr c5
            have c5b1 : ((rd l0 x5_1) != x1_1) = true := bne_iff_ne.mpr c5
            obtain rfl := Option.some.inj H
            have p343 : 0 ≤ (x5_1 : Int) := od
            have q343 : x5_1 < (l0.length : Int) := od
            obtain ⟨ad343, e343, hx343_0⟩ := Kd.at_int HR0.out x5_1 p343 q343
            cases e343
            replace p343 := eq_true p343
            replace q343 := eq_true q343
            go_wp2
            go_ret
            exact ⟨by first | rfl | (simp; done) | (simp [*]; done), by repeat (first | exact Drawn0.refl _ | apply Drawn0.step)⟩
        · rw [if_neg c4] at H
          exact absurd H (by simp)
      · rw [if_neg c3] at H
        have c3b0 : decide (x5_1 < (l0.length : Int)) = false := decide_eq_false c3
        clear c3
        obtain rfl := Option.some.inj H
        go_wp2
        go_ret
        exact ⟨by first | rfl | (simp; done) | (simp [*]; done), by repeat (first | exact Drawn0.refl _ | apply Drawn0.step)⟩

end Go.Proofs.Yteadienaeapaeaa.PT
