-- Made by a program of this session (myprint.py) out of the translation.
import Derived.Test.YteadienaeapaeaaZskPKx0
import Derived.Test.YteadienaeapaeaaZskPKx4
import Derived.Test.YteadienaeapaeaaZskPKx7
import Derived.Test.YteadienaeapaeaaZskPKx9
import Derived.Test.YteadienaeapaeaaZskShort
namespace Go.Proofs.Yteadienaeapaeaa.PK
open Go.Proofs.Yteadienaeapaeaa.Short
open Go.Proofs.Yteadienaeapaeaa.Dyn
open Go.RowKit Go.Proofs.YteadienaeapaeaaW.PrintWords Go.Proofs.YteadienaeapaeaaW.PrintLast Go.Proofs.YteadienaeapaeaaW.PrintMore
attribute [local go_sem] max2_int min2_int max_two min_two max_three min_three max_four min_four   -- for this text's walks alone
set_option linter.unusedVariables false
set_option linter.unusedSimpArgs false

/-! ### impl_StackKinds: function 37 -/
/-- What lies in memory while the map's kinds are gathered: the kinds' row behind block gk, the heights' row behind block ga. -/
structure KIv (w : World) (gk ga : Nat) (A : Option Addr) (c : Nat) (ats kinds : List Int) (v : Value) (W : World) : Prop where
  k : W.heap[gk]? = some (.cells #[v] 24 (0, 0))
  kr : Kd.R (Kd.int .i64) 2 W w.heap.size (fun k_ => k_ ≠ gk ∧ k_ ≠ ga ∧ some k_ ≠ (Value.slice A ats.length c).ownBlock) v kinds
  a : W.heap[ga]? = some (.cells #[.slice A ats.length c] 24 (0, 0))
  ar : Kd.R (Kd.int .i64) 2 W w.heap.size (fun k_ => k_ ≠ gk ∧ k_ ≠ ga) (.slice A ats.length c) ats
  b : Below w.heap.size w W
  gk1 : w.heap.size ≤ gk
  ga1 : w.heap.size ≤ ga
  ne : gk ≠ ga
section
variable {w W W2 : World} {gk ga c : Nat} {A : Option Addr} {ats kinds kinds2 : List Int} {v v2 : Value}
theorem KIv.below (h : KIv w gk ga A c ats kinds v W) (hb : Below W.heap.size W W2) : KIv w gk ga A c ats kinds v W2 :=
  ⟨blk_below h.k hb, Kd.R_below h.kr hb, blk_below h.a hb, Kd.R_below h.ar hb, below_step h.b hb, h.gk1, h.ga1, h.ne⟩
theorem KIv.alloc (h : KIv w gk ga A c ats kinds v W) (o : Obj) : KIv w gk ga A c ats kinds v (W.alloc o) := h.below (below_alloc (Below.refl _ _) o)
theorem KIv.drew (h : KIv w gk ga A c ats kinds v W) : KIv w gk ga A c ats kinds v W.drew := h.below (below_drew1 (Below.refl _ _))
theorem KIv.drewN (h : KIv w gk ga A c ats kinds v W) (n : Nat) : KIv w gk ga A c ats kinds v (W.drewN n) := h.below (pw_below_drewN (Below.refl _ _) n)
theorem KIv.fresh (h : KIv w gk ga A c ats kinds v W) (k_ : Nat) (hk : W.heap.size ≤ k_) : k_ ≠ gk ∧ k_ ≠ ga ∧ some k_ ≠ (Value.slice A ats.length c).ownBlock :=
  ⟨by rintro rfl; exact absurd (blk_lt h.k) (by omega), by rintro rfl; exact absurd (blk_lt h.a) (by omega), fun e => absurd (Kd.R_lt h.ar k_ e.symm) (by omega)⟩
theorem KIv.grown (h : KIv w gk ga A c ats kinds v W) (hg : W.grownBy W2 v.ownBlock) (hb : Below w.heap.size w W2)
    (ho : Kd.R (Kd.int .i64) 2 W2 w.heap.size (fun k_ => k_ ≠ gk ∧ k_ ≠ ga ∧ some k_ ≠ (Value.slice A ats.length c).ownBlock) v2 kinds2) :
    W2.heap[gk]? = some (.cells #[v] 24 (0, 0)) ∧ KIv w gk ga A c ats kinds2 v2 (W2.setCell ⟨gk, 0, none⟩ v2) := by
  have hk2 : W2.heap[gk]? = some (.cells #[v] 24 (0, 0)) := blk_grown h.k hg (fun e => (h.kr.1 gk e.symm).1 rfl)
  have ha2 : W2.heap[ga]? = some (.cells #[.slice A ats.length c] 24 (0, 0)) := blk_grown h.a hg (fun e => (h.kr.1 ga e.symm).2.1 rfl)
  have har : Kd.R (Kd.int .i64) 2 W2 w.heap.size (fun k_ => k_ ≠ gk ∧ k_ ≠ ga) (.slice A ats.length c) ats :=
    Kd.R_mono (Kd.R_step (Kd.R_tight rfl h.ar) (fun k_ hk hlt => hg.block k_ hlt (fun e => (h.kr.1 k_ e.symm).2.2 hk))) (fun k_ hk => h.ar.1 k_ hk.symm)
  refine ⟨hk2, blk_put hk2 0 v2 rfl, Kd.R_far ho (fun k_ hk => hk.1) v2, blk_far ha2 (fun e => h.ne e.symm) v2, Kd.R_far har (fun k_ hk => hk.1) v2, below_set hb h.gk1, h.gk1, h.ga1, h.ne⟩
theorem KIv.tells {ad : Addr} (h : KIv w gk ga (some ad) c ats kinds v W) {a0 a1 : Int} (p0 : 0 ≤ a0) (q0 : a0 < (ats.length : Int)) (p1 : 0 ≤ a1) (q1 : a1 < (ats.length : Int)) :
    W.cell? ⟨gk, 0, none⟩ = some v ∧ W.cell? ⟨ga, 0, none⟩ = some (.slice (some ad) ats.length c) ∧ W.cell? (ad.add (a0).toNat) = some (.int .i64 (rd ats a0)) ∧ W.cell? (ad.add (a1).toNat) = some (.int .i64 (rd ats a1)) := by
  obtain ⟨ad0, e0, h0⟩ := Kd.at_int (Kd.R_reads' h.ar).2.2 a0 p0 q0
  obtain ⟨ad1, e1, h1⟩ := Kd.at_int (Kd.R_reads' h.ar).2.2 a1 p1 q1
  cases e0
  cases e1
  exact ⟨(blk_cell h.k 0).trans rfl, (blk_cell h.a 0).trans rfl, h0, h1⟩
theorem KIv.start {w1 w2 w3 : World} (h : Kd.R (Kd.int .i64) 2 w1 w.heap.size (fun _ => True) (.slice A ats.length c) ats) (hB : Below w.heap.size w w1) (hga : ga = w1.heap.size)
    (hba : w2.heap[ga]? = some (.cells #[.slice none 0 0] 24 (0, 0))) (hb2 : Below w1.heap.size w1 w2) (hgk : gk = (w2.setCell ⟨ga, 0, none⟩ (.slice A ats.length c)).heap.size)
    (hbk : w3.heap[gk]? = some (.cells #[.slice none 0 0] 24 (0, 0))) (hb3 : Below (w2.setCell ⟨ga, 0, none⟩ (.slice A ats.length c)).heap.size (w2.setCell ⟨ga, 0, none⟩ (.slice A ats.length c)) w3) :
    KIv w gk ga A c ats [] (.slice none 0 0) w3 := by
  have hs : (w2.setCell ⟨ga, 0, none⟩ (.slice A ats.length c)).heap.size = w2.heap.size := by simp [World.setCell]
  have hlt := blk_lt hba
  have hsz := hB.size
  have ht := Kd.R_tight rfl h
  have hown : ∀ k_, some k_ = (Value.slice A ats.length c).ownBlock → k_ < w1.heap.size := fun k_ e => Kd.R_lt h k_ e.symm
  have hB2 : Below w.heap.size w w2 := below_step hB hb2
  refine ⟨hbk, Kd.R_nil _ _ _ _ _, blk_below (blk_put hba 0 _ rfl) hb3, ?_, below_step (below_set hB2 (by omega)) hb3, by omega, by omega, by omega⟩
  exact Kd.R_mono (Kd.R_below (Kd.R_far (Kd.R_below ht hb2) (fun k_ e => by have := hown k_ e; show k_ ≠ ga; omega) _) hb3) (fun k_ e => by have := hown k_ e; exact ⟨by omega, by omega⟩)
end
def impl_StackKinds_1.f (k : Nat) (a0 : Int) (a1 : Int) (a2 : Int) (l3 : List Int) (l4 : List Int) : Option (List Int) := if 0 ≤ a0 then (if a0 < (l4.length : Int) then (if 0 ≤ a1 then (if a1 < (l4.length : Int) then ((impl_signOf.f (wrap64 ((rd l4 a0) - (rd l4 a1)))).bind fun t238 => ((impl_KindBetween.f k ((Int.tmod a2 2) == 1) t238).bind fun t239 => (if l3.length < 17592186044416 then (some (l3 ++ [t239])) else (none)))) else (none)) else (none)) else (none)) else (none)
theorem impl_StackKinds_1.mono : ∀ a0 a1 a2 a3 a4 k, LeO (impl_StackKinds_1.f k a0 a1 a2 a3 a4) (impl_StackKinds_1.f (k + 1) a0 a1 a2 a3 a4) := by
  intro a0 a1 a2 a3 a4 k
  unfold impl_StackKinds_1.f
  repeat' first
      | (with_reducible exact impl_KindBetween.mono _ _ _)
      | (with_reducible exact LeO.refl _)
      | (with_reducible exact LeO.none _)
      | (with_reducible refine LeO.ite ?_ ?_)
      | (with_reducible refine LeO.bind ?_ (fun _ => ?_))
      | exact impl_KindBetween.mono _ _ _
      | exact LeO.none _
      | refine LeO.ite ?_ ?_
      | refine LeO.bind ?_ (fun _ => ?_)
def impl_StackKinds_1.T0 : Bool × List (List Nat × List Nat) := (true, [([], []), ([], []), ([1], [1]), ([2], [2]), ([], []), ([], []), ([4, 5], [4, 5]), ([6], [6]), ([], []), ([], []), ([8, 9], [8, 9]), ([10], [10]), ([7, 11], [7, 11]), ([12], [12]), ([3, 13, 13], [3, 13]), ([14], [14]), ([0, 15, 14], [0, 15]), ([16, 16, 0, 1, 2, 3, 4, 5, 6, 7, 8, 9, 10, 11, 12, 13, 14, 15, 16], [16])])
def impl_StackKinds_1.B0 : List Nat := [0, 0, 2, 6, 0, 0, 48, 112, 0, 0, 768, 1792, 4080, 8176, 16382, 32766, 65535, 131071]
theorem impl_StackKinds_1.tab0 : rtab .any (opsOf Try.f89 0) = impl_StackKinds_1.T0 := by kernel_rfl
theorem impl_StackKinds_1.bits0 : waitsOk impl_StackKinds_1.T0.2 impl_StackKinds_1.B0 = true := by kernel_rfl
set_option maxHeartbeats 8000000 in
set_option maxRecDepth 100000 in
theorem impl_StackKinds_1.calls (k : Nat) (a0 : Int) (a1 : Int) (a2 : Int) (w W : World) (gk ga : Nat) (A4 : Option Addr) (c4 : Nat) (l4 l3 : List Int) (v : Value) (r : List Int) (hI : KIv w gk ga A4 c4 l4 l3 v W) (h : impl_StackKinds_1.f k a0 a1 a2 l3 l4 = some r) :
    Calls Try.prog 89 #[.int .i64 a0, .int .i64 a1, .int .i64 a2, .pointer (some ⟨gk, 0, none⟩), .pointer (some ⟨ga, 0, none⟩)] W fun e w' => e = .returned (.tuple #[]) ∧ ∃ v', KIv w gk ga A4 c4 l4 r v' w' := by
  obtain ⟨Av, cv, rfl⟩ := Kd.R_slice hI.kr
  have HI := Aside0.mk hI
  clear hI
  have H : (if 0 ≤ a0 then (if a0 < (l4.length : Int) then (if 0 ≤ a1 then (if a1 < (l4.length : Int) then ((impl_signOf.f (wrap64 ((rd l4 a0) - (rd l4 a1)))).bind fun t238 => ((impl_KindBetween.f k ((Int.tmod a2 2) == 1) t238).bind fun t239 => (if l3.length < 17592186044416 then (some (l3 ++ [t239])) else (none)))) else (none)) else (none)) else (none)) else (none)) = some r := h
  clear h
  by_cases c6 : 0 ≤ a0
  · rw [if_pos c6] at H
    have c6b0 : decide (0 ≤ a0) = true := decide_eq_true c6
    clear c6
    by_cases c7 : a0 < (l4.length : Int)
    · rw [if_pos c7] at H
      have c7b0 : decide (a0 < (l4.length : Int)) = true := decide_eq_true c7
      clear c7
      by_cases c8 : 0 ≤ a1
      · rw [if_pos c8] at H
        have c8b0 : decide (0 ≤ a1) = true := decide_eq_true c8
        clear c8
        by_cases c9 : a1 < (l4.length : Int)
        · rw [if_pos c9] at H
          have c9b0 : decide (a1 < (l4.length : Int)) = true := decide_eq_true c9
          clear c9
          replace H := Option.bind_eq_some_iff.mp H
          obtain ⟨t238, A100, H⟩ := H
          replace H : ((impl_KindBetween.f k ((Int.tmod a2 2) == 1) t238).bind fun t239 => (if l3.length < 17592186044416 then (some (l3 ++ [t239])) else (none))) = some r := H
          have A10 := Aside0.mk A100
          clear A100
          replace H := Option.bind_eq_some_iff.mp H
          obtain ⟨t239, A110, H⟩ := H
          replace H : (if l3.length < 17592186044416 then (some (l3 ++ [t239])) else (none)) = some r := H
          have A11 := Aside0.mk A110
          clear A110
          by_cases c12 : l3.length < 17592186044416
          · rw [if_pos c12] at H
            have LMc12 := Aside0.mk c12
            clear c12
            obtain ⟨y240, hy240⟩ : ∃ y_ : List Int, y_ = (l3 ++ [t239]) := ⟨_, rfl⟩
            replace H : (some y240) = some r := by first | (rw [hy240]; with_reducible exact H) | (have H2_ := (Option.bind_some _ _).symm.trans H; rw [hy240]; with_reducible exact H2_) | (have H2_ := (Option.bind_some _ _).symm.trans H; with_reducible exact H2_) | with_reducible exact H | (rw [hy240]; exact H) | exact H
            have Ny240 := Aside0.mk hy240
            clear hy240
            obtain rfl := Option.some.inj H
            go_enter Try.func89, Try.ntmps89
            try go_wp2
            replace HI := Aside0.mk HI.out.drew
            have p236 : 0 ≤ (a0 : Int) := od
            have q236 : a0 < (l4.length : Int) := od
            have p237 : 0 ≤ (a1 : Int) := od
            have q237 : a1 < (l4.length : Int) := od
            obtain ⟨ad236, e236, hx236_0⟩ := Kd.at_int (Kd.R_reads' HI.out.ar).2.2 a0 p236 q236
            clear hx236_0
            cases e236
            replace p236 := eq_true p236
            replace q236 := eq_true q236
            replace p237 := eq_true p237
            replace q237 := eq_true q237
            refine start_ (n := 18) (S := fun w' => w'.cell? ⟨gk, 0, none⟩ = some (.slice Av l3.length cv) ∧ w'.cell? ⟨ga, 0, none⟩ = some (.slice (some ad236) l4.length c4) ∧ w'.cell? (ad236.add (a0).toNat) = some (.int .i64 (rd l4 a0)) ∧ w'.cell? (ad236.add (a1).toNat) = some (.int .i64 (rd l4 a1))) (ds := [17]) #[false, false, false, false, false, false, false, false, false, false, false, false, false, false, false, false, false, false] (by kernel_rfl) rfl rfl (HI.out.tells (of_eq_true p236) (of_eq_true q236) (of_eq_true p237) (of_eq_true q237)) (fun hHeld => ?_); refine with_tabW impl_StackKinds_1.tab0 impl_StackKinds_1.bits0 (fun HT_ HW_ => ?_)
            generalize W.drew = w13 at HI hHeld ⊢
            refine take_ (i := 0) (N := some 8) (v := ?_) (a' := ?_) #[true, false, false, false, false, false, false, false, false, false, false, false, false, false, false, false, false, false] rfl rfl (take_ofW HT_.out HW_.out (by kernel_rfl)) (fun _ _ _ h => h) (Or.inl ⟨by rfl, ?_⟩) hHeld ?_ ?_
            rotate_left
            · rintro w' ⟨s0, s1, s2, s3⟩
              go_simp
              with_reducible rfl
            rotate_left
            · simp only [Act.put, List.setIfInBounds_toArray, List.set_cons_zero, List.set_cons_succ, i64_w, i32_w]
              rfl
            refine pure_ (i := 1) (N := some 9) (v := ?_) (a' := ?_) #[true, true, false, false, false, false, false, false, false, false, false, false, false, false, false, false, false, false] rfl rfl (any_of HT_.out (by kernel_rfl)) (fun _ _ _ h => h) (Or.inl ⟨by rfl, ?_⟩) ?_ ?_
            rotate_left
            · intro w'
              go_simp
              with_reducible rfl
            rotate_left
            · simp only [Act.put, List.setIfInBounds_toArray, List.set_cons_zero, List.set_cons_succ, i64_w, i32_w]
              rfl
            refine pure_ (i := 2) (N := some 10) (v := ?_) (a' := ?_) #[true, true, true, false, false, false, false, false, false, false, false, false, false, false, false, false, false, false] rfl rfl (any_of HT_.out (by kernel_rfl)) (fun _ _ _ h => h) (Or.inl ⟨by rfl, ?_⟩) ?_ ?_
            rotate_left
            · intro w'
              go_simp
              with_reducible rfl
            rotate_left
            · simp only [Act.put, List.setIfInBounds_toArray, List.set_cons_zero, List.set_cons_succ, i64_w, i32_w]
              rfl
            refine pure_ (i := 3) (N := some 11) (v := ?_) (a' := ?_) #[true, true, true, true, false, false, false, false, false, false, false, false, false, false, false, false, false, false] rfl rfl (any_of HT_.out (by kernel_rfl)) (fun _ _ _ h => h) (Or.inl ⟨by rfl, ?_⟩) ?_ ?_
            rotate_left
            · intro w'
              go_simp
              with_reducible rfl
            rotate_left
            · simp only [Act.put, List.setIfInBounds_toArray, List.set_cons_zero, List.set_cons_succ, i64_w, i32_w]
              rfl
            refine take_ (i := 4) (N := some 12) (v := ?_) (a' := ?_) #[true, true, true, true, true, false, false, false, false, false, false, false, false, false, false, false, false, false] rfl rfl (take_ofW HT_.out HW_.out (by kernel_rfl)) (fun _ _ _ h => h) (Or.inl ⟨by rfl, ?_⟩) hHeld ?_ ?_
            rotate_left
            · rintro w' ⟨s0, s1, s2, s3⟩
              go_simp
              with_reducible rfl
            rotate_left
            · simp only [Act.put, List.setIfInBounds_toArray, List.set_cons_zero, List.set_cons_succ, i64_w, i32_w]
              rfl
            refine pure_ (i := 5) (N := some 13) (v := ?_) (a' := ?_) #[true, true, true, true, true, true, false, false, false, false, false, false, false, false, false, false, false, false] rfl rfl (any_of HT_.out (by kernel_rfl)) (fun _ _ _ h => h) (Or.inl ⟨by rfl, ?_⟩) ?_ ?_
            rotate_left
            · intro w'
              go_simp
              with_reducible rfl
            rotate_left
            · simp only [Act.put, List.setIfInBounds_toArray, List.set_cons_zero, List.set_cons_succ, i64_w, i32_w]
              rfl
            refine pure_ (i := 6) (N := some 14) (v := ?_) (a' := ?_) #[true, true, true, true, true, true, true, false, false, false, false, false, false, false, false, false, false, false] rfl rfl (any_of HT_.out (by kernel_rfl)) (fun _ _ _ h => h) (Or.inl ⟨by rfl, ?_⟩) ?_ ?_
            rotate_left
            · intro w'
              go_simp
              with_reducible rfl
            rotate_left
            · simp only [Act.put, List.setIfInBounds_toArray, List.set_cons_zero, List.set_cons_succ, i64_w, i32_w]
              rfl
            refine take_ (i := 8) (N := some 16) (v := ?_) (a' := ?_) #[true, true, true, true, true, true, true, false, true, false, false, false, false, false, false, false, false, false] rfl rfl (take_ofW HT_.out HW_.out (by kernel_rfl)) (fun _ _ _ h => h) (Or.inl ⟨by rfl, ?_⟩) hHeld ?_ ?_
            rotate_left
            · rintro w' ⟨s0, s1, s2, s3⟩
              go_simp
              with_reducible rfl
            rotate_left
            · simp only [Act.put, List.setIfInBounds_toArray, List.set_cons_zero, List.set_cons_succ, i64_w, i32_w]
              rfl
            refine pure_ (i := 9) (N := some 17) (v := ?_) (a' := ?_) #[true, true, true, true, true, true, true, false, true, true, false, false, false, false, false, false, false, false] rfl rfl (any_of HT_.out (by kernel_rfl)) (fun _ _ _ h => h) (Or.inl ⟨by rfl, ?_⟩) ?_ ?_
            rotate_left
            · intro w'
              go_simp
              with_reducible rfl
            rotate_left
            · simp only [Act.put, List.setIfInBounds_toArray, List.set_cons_zero, List.set_cons_succ, i64_w, i32_w]
              rfl
            refine pure_ (i := 10) (N := some 18) (v := ?_) (a' := ?_) #[true, true, true, true, true, true, true, false, true, true, true, false, false, false, false, false, false, false] rfl rfl (any_of HT_.out (by kernel_rfl)) (fun _ _ _ h => h) (Or.inl ⟨by rfl, ?_⟩) ?_ ?_
            rotate_left
            · intro w'
              go_simp
              with_reducible rfl
            rotate_left
            · simp only [Act.put, List.setIfInBounds_toArray, List.set_cons_zero, List.set_cons_succ, i64_w, i32_w]
              rfl
            refine take_ (i := 7) (N := some 15) (v := ?_) (a' := ?_) #[true, true, true, true, true, true, true, true, true, true, true, false, false, false, false, false, false, false] rfl rfl (take_ofW HT_.out HW_.out (by kernel_rfl)) (fun _ _ _ h => h) (Or.inl ⟨by rfl, ?_⟩) hHeld ?_ ?_
            rotate_left
            · rintro w' ⟨s0, s1, s2, s3⟩
              go_simp
              with_reducible rfl
            rotate_left
            · simp only [Act.put, List.setIfInBounds_toArray, List.set_cons_zero, List.set_cons_succ, i64_w, i32_w]
              rfl
            refine take_ (i := 11) (N := some 19) (v := ?_) (a' := ?_) #[true, true, true, true, true, true, true, true, true, true, true, true, false, false, false, false, false, false] rfl rfl (take_ofW HT_.out HW_.out (by kernel_rfl)) (fun _ _ _ h => h) (Or.inl ⟨by rfl, ?_⟩) hHeld ?_ ?_
            rotate_left
            · rintro w' ⟨s0, s1, s2, s3⟩
              go_simp
              with_reducible rfl
            rotate_left
            · simp only [Act.put, List.setIfInBounds_toArray, List.set_cons_zero, List.set_cons_succ, i64_w, i32_w]
              rfl
            refine pure_ (i := 12) (N := some 20) (v := ?_) (a' := ?_) #[true, true, true, true, true, true, true, true, true, true, true, true, true, false, false, false, false, false] rfl rfl (any_of HT_.out (by kernel_rfl)) (fun _ _ _ h => h) (Or.inl ⟨by rfl, ?_⟩) ?_ ?_
            rotate_left
            · intro w'
              go_simp
              with_reducible rfl
            rotate_left
            · simp only [Act.put, List.setIfInBounds_toArray, List.set_cons_zero, List.set_cons_succ, i64_w, i32_w]
              rfl
            refine one_ (i := 13) (N := some 21) #[true, true, true, true, true, true, true, true, true, true, true, true, true, true, false, false, false, false] rfl rfl (one_of HT_.out (by kernel_rfl)) (by decide) (fun K hK => ?_)
            refine goes_ Try.func91 (by kernel_rfl) rfl #[.int .i64 (wrap64 ((rd l4 a0) - (rd l4 a1)))] (by rfl) rfl rfl (by (try simp only [List.map_toArray, List.map_cons, List.map_nil]); first | done | rfl | (simp only [List.length_drop, List.length_take]; rfl)) ?_
            with_reducible refine (impl_signOf.calls (wrap64 ((rd l4 a0) - (rd l4 a1))) t238 _ A10.out).mono ?_
            rintro e w14 ⟨rfl, hb⟩
            refine ⟨_, rfl, ?_⟩
            replace HI := Aside0.mk (HI.out.below hb)
            (try clear hb)
            refine hK.out _ _ (HI.out.tells (of_eq_true p236) (of_eq_true q236) (of_eq_true p237) (of_eq_true q237)) (fun hHeld => ?_)
            clear hK K
            refine norm_ (a' := ?_) ?_ ?_
            rotate_left
            · show Act.put _ (some 21) _ = _
              simp only [Act.put, List.setIfInBounds_toArray, List.set_cons_zero, List.set_cons_succ, i64_w, i32_w]
              rfl
            refine one_ (i := 14) (N := some 22) #[true, true, true, true, true, true, true, true, true, true, true, true, true, true, true, false, false, false] rfl rfl (one_of HT_.out (by kernel_rfl)) (by decide) (fun K hK => ?_)
            refine goes_ Try.func90 (by kernel_rfl) rfl #[.bool ((Int.tmod a2 2) == 1), .int .i64 t238] (by rfl) rfl rfl (by (try simp only [List.map_toArray, List.map_cons, List.map_nil]); first | done | rfl | (simp only [List.length_drop, List.length_take]; rfl)) ?_
            with_reducible refine (impl_KindBetween.calls k ((Int.tmod a2 2) == 1) t238 t239 _ A11.out).mono ?_
            rintro e w' ⟨rfl, ⟨nd, rfl⟩⟩
            refine ⟨_, rfl, ?_⟩
            replace HI := Aside0.mk (HI.out.drewN nd)
            refine hK.out _ _ (HI.out.tells (of_eq_true p236) (of_eq_true q236) (of_eq_true p237) (of_eq_true q237)) (fun hHeld => ?_)
            clear hK K
            refine norm_ (a' := ?_) ?_ ?_
            rotate_left
            · show Act.put _ (some 22) _ = _
              simp only [Act.put, List.setIfInBounds_toArray, List.set_cons_zero, List.set_cons_succ, i64_w, i32_w]
              rfl
            refine one_ (i := 15) (N := some 23) #[true, true, true, true, true, true, true, true, true, true, true, true, true, true, true, true, false, false] rfl rfl (one_of HT_.out (by kernel_rfl)) (by decide) (fun K hK => ?_)
            refine value_ (w1 := ?_) (v := ?_) (by rfl) rfl ?_ ?_
            rotate_left 2
            · go_simp
              constructor
              · rfl
              · rfl
            refine hK.out _ _ ((HI.out.alloc _).tells (of_eq_true p236) (of_eq_true q236) (of_eq_true p237) (of_eq_true q237)) (fun hHeld => ?_)
            clear hK K
            refine norm_ (a' := ?_) ?_ ?_
            rotate_left
            · show Act.put _ (some 23) _ = _
              simp only [Act.put, List.setIfInBounds_toArray, List.set_cons_zero, List.set_cons_succ, i64_w, i32_w]
              rfl
            refine one_ (i := 16) (N := some 24) #[true, true, true, true, true, true, true, true, true, true, true, true, true, true, true, true, true, false] rfl rfl (one_of HT_.out (by kernel_rfl)) (by decide) (fun K hK => ?_)
            refine Kd.R_append_step (Kd.int .i64) (w0 := w) w.heap.size (by rfl) (.tmp 8) (.tmp 23) 24 2 (.int .i64 0) 8 rfl Try.underlying24 info2 rfl (by decide) (by omega) (.slice Av l3.length cv) l3 t239 [.int .i64 t239] (fun k_ => k_ ≠ gk ∧ k_ ≠ ga ∧ some k_ ≠ (Value.slice (some ad236) l4.length c4).ownBlock) (fun _ => False) rfl rfl ?aP (fun _ hk => hk.elim) ?aF ?aO ?aB ?aS ?aL ?_
            (case aP => exact rfl)
            (case aB => exact HI.out.b)
            (case aF => exact HI.out.fresh)
            (case aO => exact HI.out.kr)
            (case aS => exact HI.out.b.size)
            (case aL => have := LMc12.out; omega)
            intro v241 w15 ho hb hg hat
            obtain ⟨A241, c241, e241⟩ := Kd.R_slice ho
            generalize (l3 ++ [t239]).length = n241 at e241
            subst e241
            rw [← Ny240.out] at ho
            have HG := Aside0.mk (HI.out.grown hg hb ho)
            have hS1 : w15.cell? ⟨ga, 0, none⟩ = some (.slice (some ad236) l4.length c4) := (blk_cell (blk_grown HI.out.a hg (fun e => (HI.out.kr.1 ga e.symm).2.1 rfl)) 0).trans rfl
            have hC := Kd.R_step (Kd.R_tight rfl HI.out.ar) (fun k_ hk hlt => hg.block k_ hlt (fun e => (HI.out.kr.1 k_ e.symm).2.2 hk))
            obtain ⟨adx, ex, hS2⟩ := Kd.at_int (Kd.R_reads' hC).2.2 a0 (of_eq_true p236) (of_eq_true q236)
            cases ex
            obtain ⟨adx, ex, hS3⟩ := Kd.at_int (Kd.R_reads' hC).2.2 a1 (of_eq_true p237) (of_eq_true q237)
            cases ex
            clear hC ho hb hg hat HI
            have hsf := blk_frozen HG.out.1 0
            refine hK.out _ _ ⟨(blk_cell HG.out.1 0).trans rfl, hS1, hS2, hS3⟩ (fun hHeld => ?_)
            clear hK K
            refine norm_ (a' := ?_) ?_ ?_
            rotate_left
            · show Act.put _ (some 24) _ = _
              simp only [Act.put, List.setIfInBounds_toArray, List.set_cons_zero, List.set_cons_succ, i64_w, i32_w]
              rfl
            clear hHeld hS1 hS2 hS3
            refine last_ (i := 17) (N := none) #[true, true, true, true, true, true, true, true, true, true, true, true, true, true, true, true, true, true] rfl rfl (one_of HT_.out (by kernel_rfl)) (by decide) (fun K hK => ?_)
            have hst : w15.cell? ⟨gk, 0, none⟩ = some (.slice Av l3.length cv) := (blk_cell HG.out.1 0).trans rfl
            refine skip_ (w1 := ?_) (by rfl) rfl ?_ ?_
            rotate_left
            · go_simp
              rfl
            refine hK.out _ _ ?_
            clear hK K
            refine done_ (done_of HT_.out (by kernel_rfl)) ?_
            try go_wp2
            go_end0
            exact ⟨rfl, _, HG.out.2⟩
          · rw [if_neg c12] at H
            exact absurd H (by simp)
        · rw [if_neg c9] at H
          exact absurd H (by simp)
      · rw [if_neg c8] at H
        exact absurd H (by simp)
    · rw [if_neg c7] at H
      exact absurd H (by simp)
  · rw [if_neg c6] at H
    exact absurd H (by simp)
mutual
def impl_StackKinds.l0 : Nat → Int → Int → List Int → List Int → Int → Int → Option (List Int × Int)
  | 0, _, _, _, _, _, _ => none
  | k + 1, x0, x1, x8, x9, x28, x29 => if x29 < x28 then (impl_StackKinds.l1 k x0 x1 x8 x9 x29 x28 x29 x1 0) else (some (x9, 0))
def impl_StackKinds.l1 : Nat → Int → Int → List Int → List Int → Int → Int → Int → Int → Int → Option (List Int × Int)
  | 0, _, _, _, _, _, _, _, _, _ => none
  | k + 1, x0, x1, x8, x9, x11, x28, x29, x32, x33 => if x33 < x32 then (if (wrap64 (x33 + 1)) < x1 then ((impl_StackKinds_1.f k (wrap64 ((wrap64 (x11 * x1)) + x33)) (wrap64 ((wrap64 ((wrap64 (x11 * x1)) + x33)) + 1)) (wrap64 (x11 + x33)) x9 x8).bind fun t248 => (impl_StackKinds.j2 k x0 x1 x8 t248 x11 x33 (wrap64 ((wrap64 (x11 * x1)) + x33)) x28 x29 x32 x33)) else (impl_StackKinds.j2 k x0 x1 x8 x9 x11 x33 (wrap64 ((wrap64 (x11 * x1)) + x33)) x28 x29 x32 x33)) else (impl_StackKinds.l0 k x0 x1 x8 x9 x28 (wrap64 (x29 + 1)))
def impl_StackKinds.j2 : Nat → Int → Int → List Int → List Int → Int → Int → Int → Int → Int → Int → Int → Option (List Int × Int)
  | 0, _, _, _, _, _, _, _, _, _, _, _ => none
  | k + 1, x0, x1, x8, x9, x11, x12, x13, x28, x29, x32, x33 => if (wrap64 (x11 + 1)) < x0 then ((impl_StackKinds_1.f k x13 (wrap64 (x13 + x1)) (wrap64 (x11 + x12)) x9 x8).bind fun t251 => (impl_StackKinds.l1 k x0 x1 x8 t251 x11 x28 x29 x32 (wrap64 (x33 + 1)))) else (impl_StackKinds.l1 k x0 x1 x8 x9 x11 x28 x29 x32 (wrap64 (x33 + 1)))
end
def impl_StackKinds.f (k : Nat) (a0 : Int) (a1 : Int) (l2 : List Int) : Option (List Int × Int) := (impl_ValidMap.f a0 a1).bind fun t243 => (if t243 = true then ((impl_CheckStack.f k a0 a1 l2).bind fun t244 => (if t244 = true then ((impl_heights.f k l2).bind fun t245 => (impl_StackKinds.l0 k a0 a1 t245 ([] : List Int) a0 0)) else (some (([] : List Int), 12)))) else (some (([] : List Int), 1)))
theorem impl_StackKinds.mono_l : ∀ k, (∀ y0 y1 y2 y3 y4 y5, LeO (impl_StackKinds.l0 k y0 y1 y2 y3 y4 y5) (impl_StackKinds.l0 (k + 1) y0 y1 y2 y3 y4 y5)) ∧ (∀ y0 y1 y2 y3 y4 y5 y6 y7 y8, LeO (impl_StackKinds.l1 k y0 y1 y2 y3 y4 y5 y6 y7 y8) (impl_StackKinds.l1 (k + 1) y0 y1 y2 y3 y4 y5 y6 y7 y8)) ∧ (∀ y0 y1 y2 y3 y4 y5 y6 y7 y8 y9 y10, LeO (impl_StackKinds.j2 k y0 y1 y2 y3 y4 y5 y6 y7 y8 y9 y10) (impl_StackKinds.j2 (k + 1) y0 y1 y2 y3 y4 y5 y6 y7 y8 y9 y10))
  | 0 => ⟨fun _ _ _ _ _ _ r h => by simp [impl_StackKinds.l0] at h, fun _ _ _ _ _ _ _ _ _ r h => by simp [impl_StackKinds.l1] at h, fun _ _ _ _ _ _ _ _ _ _ _ r h => by simp [impl_StackKinds.j2] at h⟩
  | k + 1 => by
    obtain ⟨ih0, ih1, ih2⟩ := impl_StackKinds.mono_l k
    refine ⟨?_, ?_, ?_⟩
    · intro y0 y1 y2 y3 y4 y5
      unfold impl_StackKinds.l0
      repeat' first
      | (with_reducible exact ih0 _ _ _ _ _ _)
      | (with_reducible exact ih1 _ _ _ _ _ _ _ _ _)
      | (with_reducible exact ih2 _ _ _ _ _ _ _ _ _ _ _)
      | (with_reducible exact impl_CheckStack.mono _ _ _ _)
      | (with_reducible exact impl_StackKinds_1.mono _ _ _ _ _ _)
      | (with_reducible exact impl_heights.mono _ _)
      | (with_reducible exact LeO.refl _)
      | (with_reducible exact LeO.none _)
      | (with_reducible refine LeO.ite ?_ ?_)
      | (with_reducible refine LeO.bind ?_ (fun _ => ?_))
      | exact ih0 _ _ _ _ _ _
      | exact ih1 _ _ _ _ _ _ _ _ _
      | exact ih2 _ _ _ _ _ _ _ _ _ _ _
      | exact impl_CheckStack.mono _ _ _ _
      | exact impl_StackKinds_1.mono _ _ _ _ _ _
      | exact impl_heights.mono _ _
      | exact LeO.none _
      | refine LeO.ite ?_ ?_
      | refine LeO.bind ?_ (fun _ => ?_)
    · intro y0 y1 y2 y3 y4 y5 y6 y7 y8
      unfold impl_StackKinds.l1
      repeat' first
      | (with_reducible exact ih0 _ _ _ _ _ _)
      | (with_reducible exact ih1 _ _ _ _ _ _ _ _ _)
      | (with_reducible exact ih2 _ _ _ _ _ _ _ _ _ _ _)
      | (with_reducible exact impl_CheckStack.mono _ _ _ _)
      | (with_reducible exact impl_StackKinds_1.mono _ _ _ _ _ _)
      | (with_reducible exact impl_heights.mono _ _)
      | (with_reducible exact LeO.refl _)
      | (with_reducible exact LeO.none _)
      | (with_reducible refine LeO.ite ?_ ?_)
      | (with_reducible refine LeO.bind ?_ (fun _ => ?_))
      | exact ih0 _ _ _ _ _ _
      | exact ih1 _ _ _ _ _ _ _ _ _
      | exact ih2 _ _ _ _ _ _ _ _ _ _ _
      | exact impl_CheckStack.mono _ _ _ _
      | exact impl_StackKinds_1.mono _ _ _ _ _ _
      | exact impl_heights.mono _ _
      | exact LeO.none _
      | refine LeO.ite ?_ ?_
      | refine LeO.bind ?_ (fun _ => ?_)
    · intro y0 y1 y2 y3 y4 y5 y6 y7 y8 y9 y10
      unfold impl_StackKinds.j2
      repeat' first
      | (with_reducible exact ih0 _ _ _ _ _ _)
      | (with_reducible exact ih1 _ _ _ _ _ _ _ _ _)
      | (with_reducible exact ih2 _ _ _ _ _ _ _ _ _ _ _)
      | (with_reducible exact impl_CheckStack.mono _ _ _ _)
      | (with_reducible exact impl_StackKinds_1.mono _ _ _ _ _ _)
      | (with_reducible exact impl_heights.mono _ _)
      | (with_reducible exact LeO.refl _)
      | (with_reducible exact LeO.none _)
      | (with_reducible refine LeO.ite ?_ ?_)
      | (with_reducible refine LeO.bind ?_ (fun _ => ?_))
      | exact ih0 _ _ _ _ _ _
      | exact ih1 _ _ _ _ _ _ _ _ _
      | exact ih2 _ _ _ _ _ _ _ _ _ _ _
      | exact impl_CheckStack.mono _ _ _ _
      | exact impl_StackKinds_1.mono _ _ _ _ _ _
      | exact impl_heights.mono _ _
      | exact LeO.none _
      | refine LeO.ite ?_ ?_
      | refine LeO.bind ?_ (fun _ => ?_)
theorem impl_StackKinds.mono : ∀ a0 a1 a2 k, LeO (impl_StackKinds.f k a0 a1 a2) (impl_StackKinds.f (k + 1) a0 a1 a2) := by
  intro a0 a1 a2 k
  obtain ⟨ih0, ih1, ih2⟩ := impl_StackKinds.mono_l k
  unfold impl_StackKinds.f
  repeat' first
      | (with_reducible exact ih0 _ _ _ _ _ _)
      | (with_reducible exact ih1 _ _ _ _ _ _ _ _ _)
      | (with_reducible exact ih2 _ _ _ _ _ _ _ _ _ _ _)
      | (with_reducible exact impl_CheckStack.mono _ _ _ _)
      | (with_reducible exact impl_StackKinds_1.mono _ _ _ _ _ _)
      | (with_reducible exact impl_heights.mono _ _)
      | (with_reducible exact LeO.refl _)
      | (with_reducible exact LeO.none _)
      | (with_reducible refine LeO.ite ?_ ?_)
      | (with_reducible refine LeO.bind ?_ (fun _ => ?_))
      | exact ih0 _ _ _ _ _ _
      | exact ih1 _ _ _ _ _ _ _ _ _
      | exact ih2 _ _ _ _ _ _ _ _ _ _ _
      | exact impl_CheckStack.mono _ _ _ _
      | exact impl_StackKinds_1.mono _ _ _ _ _ _
      | exact impl_heights.mono _ _
      | exact LeO.none _
      | refine LeO.ite ?_ ?_
      | refine LeO.bind ?_ (fun _ => ?_)
set_option maxHeartbeats 8000000 in
set_option maxRecDepth 100000 in
theorem impl_StackKinds.calls (k : Nat) (a0 : Int) (a1 : Int) (A2 : Option Addr) (c2 : Nat) (l2 : List Int) (r1 : List Int) (r2 : Int) (w : World) (hr2 : Kd.C (Kd.int .i64) w A2 l2.length l2) (hc2 : l2.length ≤ c2) (h : impl_StackKinds.f k a0 a1 l2 = some (r1, r2)) :
    Calls Try.prog 37 #[.int .i64 a0, .int .i64 a1, .slice A2 l2.length c2] w fun e w' => ∃ v0_ : Value, e = .returned (.tuple #[v0_, .int .i64 r2]) ∧ Kd.R (Kd.int .i64) 2 w' w.heap.size (fun _ => True) v0_ r1 ∧ Below w.heap.size w w' := by
  have HR2 := Aside0.mk hr2
  have HC2 := Aside0.mk hc2
  clear hr2 hc2
  have HB := Aside0.mk (Below.refl w.heap.size w)
  have H : ((impl_ValidMap.f a0 a1).bind fun t243 => (if t243 = true then ((impl_CheckStack.f k a0 a1 l2).bind fun t244 => (if t244 = true then ((impl_heights.f k l2).bind fun t245 => (impl_StackKinds.l0 k a0 a1 t245 ([] : List Int) a0 0)) else (some (([] : List Int), 12)))) else (some (([] : List Int), 1)))) = some (r1, r2) := h
  clear h
  replace H := Option.bind_eq_some_iff.mp H
  obtain ⟨t243, A40, H⟩ := H
  replace H : (if t243 = true then ((impl_CheckStack.f k a0 a1 l2).bind fun t244 => (if t244 = true then ((impl_heights.f k l2).bind fun t245 => (impl_StackKinds.l0 k a0 a1 t245 ([] : List Int) a0 0)) else (some (([] : List Int), 12)))) else (some (([] : List Int), 1))) = some (r1, r2) := H
  have A4 := Aside0.mk A40
  clear A40
  by_cases c5 : t243 = true
  · subst c5
    rw [if_pos rfl] at H
    replace H := Option.bind_eq_some_iff.mp H
    obtain ⟨t244, A60, H⟩ := H
    replace H : (if t244 = true then ((impl_heights.f k l2).bind fun t245 => (impl_StackKinds.l0 k a0 a1 t245 ([] : List Int) a0 0)) else (some (([] : List Int), 12))) = some (r1, r2) := H
    have A6 := Aside0.mk A60
    clear A60
    by_cases c7 : t244 = true
    · subst c7
      rw [if_pos rfl] at H
      replace H := Option.bind_eq_some_iff.mp H
      obtain ⟨t245, A80, H⟩ := H
      replace H : (impl_StackKinds.l0 k a0 a1 t245 ([] : List Int) a0 0) = some (r1, r2) := H
      have A8 := Aside0.mk A80
      clear A80
      have H' := Aside0.mk H
      clear H
      go_enter Try.func37, Try.ntmps37
      go_wp2_with (first | ((with_reducible refine gate_callee (f := 75) rfl ?_); refine gl (some 17) Try.func75 #[.int .i64 a0, .int .i64 a1] ?_; (with_reducible refine (impl_ValidMap.calls a0 a1 true _ A4.out).mono ?_); rintro e w' ⟨rfl, ⟨nd, rfl⟩⟩; refine ⟨_, rfl, ?_⟩) | ((with_reducible refine gate_callee (f := 24) rfl ?_); refine gl (some 23) Try.func24 #[.int .i64 a0, .int .i64 a1, .slice A2 l2.length c2] ?_; (with_reducible refine (impl_CheckStack.calls k a0 a1 _ _ l2 true _ ?side1 ?side2 A6.out).mono ?_); (case side1 => repeat (first | exact HR2.out | (with_reducible refine Kd.C_alloc ?_ _) | (with_reducible refine Kd.C_drewN ?_ _) | (with_reducible refine Kd.C_drew ?_))); (case side2 => exact HC2.out); rintro e w9 ⟨rfl, hb⟩; refine ⟨_, rfl, ?_⟩; replace HB := bs hb; (try clear hb); (try clear hb2); (try clear hk); (try clear hi)) | ((with_reducible refine gate_callee (f := 88) rfl ?_); refine gl (some 26) Try.func88 #[.slice A2 l2.length c2] ?_; (with_reducible refine (impl_heights.calls k _ _ l2 t245 _ ?side1 ?side2 A8.out).mono ?_); (case side1 => exact sd HR2); (case side2 => exact HC2.out); rintro e w10 ⟨v246, rfl, ho0, hb⟩; obtain ⟨A8, c8, rfl⟩ := Kd.R_slice ho0; refine ⟨_, rfl, ?_⟩; have HO247 := Aside0.mk (Kd.R_lower ho0 (below_size bw)); replace HB := bs hb; (try clear hb); (try clear ho0)) | ((with_reducible refine gate_dst (N := 8) rfl ?_); refine bx #[.slice none 0 0] 24 ?_; intro gb8 hg8 w11 hbox8 hb8; have BK8 := Aside0.mk hbox8; have hz8 : w11.cell? ⟨gb8, 0, none⟩ = some (.slice none 0 0) := (blk_cell hbox8 0).trans rfl; have hy8 := blk_frozen hbox8 0; have G8 := Aside0.mk hg8; have B8 := Aside0.mk hb8; clear hg8 hb8 hbox8) | ((with_reducible refine gate_dst (N := 9) rfl ?_); refine bx #[.slice none 0 0] 24 ?_; intro gb9 hg9 w12 hbox9 hb9; have HI := Aside0.mk (KIv.start HO247.out HB.out G8.out BK8.out B8.out hg9 hbox9 hb9); clear hg9 hb9 hbox9 BK8 hz8 hy8 G8 B8 HO247 HB))
      go_loopg [29] k (fun kq v29 w' => ∃ (x9_1 : List Int) (x29_1 : Int) (v_ : Value), v29 = .int .i64 x29_1 ∧ Aside0 (impl_StackKinds.l0 kq a0 a1 t245 x9_1 a0 x29_1 = some (r1, r2)) ∧ Aside0 (kq ≤ k) ∧ Aside0 (KIv w gb9 gb8 A8 c8 t245 x9_1 v_ w'))
      case atStart => exact ⟨([] : List Int), 0, _, rfl, H', ⟨Nat.le_refl _⟩, HI⟩
      case round =>
        clear H'
        try clear c2
        try clear p2
        try clear c3
        try clear c5
        try clear c7
        try clear c8
        clear HI
        obtain ⟨x9_1, x29_1, v1_, rfl, HA, HK1, HI⟩ := hrel
        cases gk with
        | zero => exact absurd HA.out (by simp [impl_StackKinds.l0])
        | succ k1 =>
          have H := HA.out
          clear HA
          simp only [impl_StackKinds.l0] at H
          by_cases c11 : x29_1 < a0
          · rw [if_pos c11] at H
            have c11b0 : decide (x29_1 < a0) = true := decide_eq_true c11
            clear c11
            have H' := Aside0.mk H
            clear H
            go_wp2
            go_loopg [33] k1 (fun kq v33 w' => ∃ (x9_2 : List Int) (x33_2 : Int) (v_ : Value), v33 = .int .i64 x33_2 ∧ Aside0 (impl_StackKinds.l1 kq a0 a1 t245 x9_2 x29_1 a0 x29_1 a1 x33_2 = some (r1, r2)) ∧ Aside0 (kq ≤ k1) ∧ Aside0 (KIv w gb9 gb8 A8 c8 t245 x9_2 v_ w'))
            case atStart => exact ⟨x9_1, 0, _, rfl, H', ⟨Nat.le_refl _⟩, HI⟩
            case round =>
              clear H'
              try clear c1
              try clear c2
              try clear p2
              try clear c3
              try clear c5
              try clear c7
              try clear c8
              try clear c11
              try clear c11b0
              try clear p2
              clear HI
              obtain ⟨x9_2, x33_2, v2_, rfl, HA, HK2, HI⟩ := hrel
              cases gk with
              | zero => exact absurd HA.out (by simp [impl_StackKinds.l1])
              | succ k2 =>
                have H := HA.out
                clear HA
                simp only [impl_StackKinds.l1] at H
                by_cases c12 : x33_2 < a1
                · rw [if_pos c12] at H
                  have c12b0 : decide (x33_2 < a1) = true := decide_eq_true c12
                  clear c12
                  have HC13 := Aside0.mk H
                  clear H
                  go_upto_if 44 with (fail)
                  go_cut [] (fun wc => ∃ (kq : Nat) (x9_12 : List Int) (v_ : Value), Aside0 (impl_StackKinds.j2 kq a0 a1 t245 x9_12 x29_1 x33_2 (wrap64 ((wrap64 (x29_1 * a1)) + x33_2)) a0 x29_1 a1 x33_2 = some (r1, r2)) ∧ Aside0 (kq ≤ k2) ∧ Aside0 (KIv w gb9 gb8 A8 c8 t245 x9_12 v_ wc))
                  case first =>
                    have H := HC13.out
                    clear HC13
                    by_cases c14 : (wrap64 (x33_2 + 1)) < a1
                    · rw [if_pos c14] at H
                      have c14b0 : decide ((wrap64 (x33_2 + 1)) < a1) = true := decide_eq_true c14
                      clear c14
                      (first | rw [c14b0] | (simp only [i64_w, i32_w]; rw [c14b0]) | skip)
                      replace H := Option.bind_eq_some_iff.mp H
                      obtain ⟨t248, A150, H⟩ := H
                      replace H : (impl_StackKinds.j2 k2 a0 a1 t245 t248 x29_1 x33_2 (wrap64 ((wrap64 (x29_1 * a1)) + x33_2)) a0 x29_1 a1 x33_2) = some (r1, r2) := H
                      have A15 := Aside0.mk A150
                      clear A150
                      have H' := Aside0.mk H
                      clear H
                      go_wp2_with (first | ((with_reducible refine gate_dst (N := 52) rfl ?_); go_loud (refine goesLV_ (some 52) rfl rfl Try.func89 (by kernel_rfl) rfl #[.int .i64 (wrap64 ((wrap64 (x29_1 * a1)) + x33_2)), .int .i64 (wrap64 ((wrap64 ((wrap64 (x29_1 * a1)) + x33_2)) + 1)), .int .i64 (wrap64 (x29_1 + x33_2)), .pointer (some ⟨gb9, 0, none⟩), .pointer (some ⟨gb8, 0, none⟩)] rfl rfl (by simp only [List.map_toArray, List.map_cons, List.map_nil, List.append_toArray, List.cons_append, List.nil_append]; rfl) ?_; refine (impl_StackKinds_1.calls k2 _ _ _ w _ gb9 gb8 A8 c8 t245 x9_2 _ t248 HI.out A15.out).mono ?_; rintro e w18 ⟨rfl, v4_, hI2⟩; refine ⟨_, rfl, ?_⟩; replace HI := Aside0.mk hI2; clear hI2)))
                      go_meet
                      case rel => exact ⟨_, t248, _, H', ⟨by have := HK1.out; have := HK2.out; first | omega | exact Nat.le_refl _⟩, HI⟩
                    · rw [if_neg c14] at H
                      have c14b0 : decide ((wrap64 (x33_2 + 1)) < a1) = false := decide_eq_false c14
                      clear c14
                      (first | rw [c14b0] | (simp only [i64_w, i32_w]; rw [c14b0]) | skip)
                      have H' := Aside0.mk H
                      clear H
                      go_wp2
                      go_meet
                      case rel => exact ⟨_, x9_2, _, H', ⟨by have := HK1.out; have := HK2.out; first | omega | exact Nat.le_refl _⟩, HI⟩
                  case rest =>
                    clear HC13
                    try clear c1
                    try clear c2
                    try clear p2
                    try clear c3
                    try clear c5
                    try clear p6
                    try clear c7
                    try clear c8
                    try clear c11
                    try clear c11b0
                    try clear c12
                    try clear c12b0
                    try clear c14
                    try clear c14b0
                    try clear p2
                    clear HI
                    obtain ⟨kq, x9_12, v3_, HA, HJ12, HI⟩ := hcut
                    cases kq with
                    | zero => exact absurd HA.out (by simp [impl_StackKinds.j2])
                    | succ kj12 =>
                      have H := HA.out
                      clear HA
                      simp only [impl_StackKinds.j2] at H
                      by_cases c19 : (wrap64 (x29_1 + 1)) < a0
                      · rw [if_pos c19] at H
                        have c19b0 : decide ((wrap64 (x29_1 + 1)) < a0) = true := decide_eq_true c19
                        clear c19
                        replace H := Option.bind_eq_some_iff.mp H
                        obtain ⟨t251, A200, H⟩ := H
                        replace H : (impl_StackKinds.l1 kj12 a0 a1 t245 t251 x29_1 a0 x29_1 a1 (wrap64 (x33_2 + 1))) = some (r1, r2) := H
                        have A20 := Aside0.mk A200
                        clear A200
                        have H' := Aside0.mk H
                        clear H
                        go_wp2_with (first | ((with_reducible refine gate_dst (N := 65) rfl ?_); refine goesLV_ (some 65) rfl rfl Try.func89 (by kernel_rfl) rfl #[.int .i64 (wrap64 ((wrap64 (x29_1 * a1)) + x33_2)), .int .i64 (wrap64 ((wrap64 ((wrap64 (x29_1 * a1)) + x33_2)) + a1)), .int .i64 (wrap64 (x29_1 + x33_2)), .pointer (some ⟨gb9, 0, none⟩), .pointer (some ⟨gb8, 0, none⟩)] rfl rfl (by simp only [List.map_toArray, List.map_cons, List.map_nil, List.append_toArray, List.cons_append, List.nil_append]; rfl) ?_; refine (impl_StackKinds_1.calls kj12 _ _ _ w _ gb9 gb8 A8 c8 t245 x9_12 _ t251 HI.out A20.out).mono ?_; rintro e w18 ⟨rfl, v5_, hI2⟩; refine ⟨_, rfl, ?_⟩; replace HI := Aside0.mk hI2; clear hI2))
                        go_roundg kj12
                        case measure => have := HK1.out; have := HK2.out; have := HJ12.out; omega
                        case rel => exact ⟨t251, wrap64 (x33_2 + 1), _, rfl, H', ⟨by have := HK1.out; have := HK2.out; have := HJ12.out; omega⟩, HI⟩
                      · rw [if_neg c19] at H
                        have c19b0 : decide ((wrap64 (x29_1 + 1)) < a0) = false := decide_eq_false c19
                        clear c19
                        have H' := Aside0.mk H
                        clear H
                        go_wp2
                        go_roundg kj12
                        case measure => have := HK1.out; have := HK2.out; have := HJ12.out; omega
                        case rel => exact ⟨x9_12, wrap64 (x33_2 + 1), _, rfl, H', ⟨by have := HK1.out; have := HK2.out; have := HJ12.out; omega⟩, HI⟩
                · rw [if_neg c12] at H
                  have c12b0 : decide (x33_2 < a1) = false := decide_eq_false c12
                  clear c12
                  have H' := Aside0.mk H
                  clear H
                  go_wp2
                  go_roundg k2
                  case measure => have := HK1.out; have := HK2.out; omega
                  case rel => exact ⟨x9_2, wrap64 (x29_1 + 1), _, rfl, H', ⟨by have := HK1.out; have := HK2.out; omega⟩, HI⟩
          · rw [if_neg c11] at H
            have c11b0 : decide (x29_1 < a0) = false := decide_eq_false c11
            clear c11
            simp only [Option.some.injEq, Prod.mk.injEq] at H
            obtain ⟨rfl, rfl⟩ := H
            obtain ⟨A9, c9, rfl⟩ := Kd.R_slice HI.out.kr
            have hz9 : wr.cell? ⟨gb9, 0, none⟩ = some (.slice A9 x9_1.length c9) := (blk_cell HI.out.k 0).trans rfl
            go_wp2
            go_ret2
            exact ⟨_, rfl, Kd.R_mono HI.out.kr (fun _ hk => trivial), HI.out.b⟩
    · replace c7 := Bool.eq_false_iff.mpr c7
      subst c7
      rw [if_neg nf] at H
      simp only [Option.some.injEq, Prod.mk.injEq] at H
      obtain ⟨rfl, rfl⟩ := H
      go_enter Try.func37, Try.ntmps37
      go_wp2_with (first | ((with_reducible refine gate_callee (f := 75) rfl ?_); refine gl (some 17) Try.func75 #[.int .i64 a0, .int .i64 a1] ?_; (with_reducible refine (impl_ValidMap.calls a0 a1 true _ A4.out).mono ?_); rintro e w' ⟨rfl, ⟨nd, rfl⟩⟩; refine ⟨_, rfl, ?_⟩) | ((with_reducible refine gate_callee (f := 24) rfl ?_); refine gl (some 23) Try.func24 #[.int .i64 a0, .int .i64 a1, .slice A2 l2.length c2] ?_; (with_reducible refine (impl_CheckStack.calls k a0 a1 _ _ l2 false _ ?side1 ?side2 A6.out).mono ?_); (case side1 => repeat (first | exact HR2.out | (with_reducible refine Kd.C_alloc ?_ _) | (with_reducible refine Kd.C_drewN ?_ _) | (with_reducible refine Kd.C_drew ?_))); (case side2 => exact HC2.out); rintro e w24 ⟨rfl, hb⟩; refine ⟨_, rfl, ?_⟩; replace HB := bs hb; (try clear hb); (try clear hb2); (try clear hk); (try clear hi)))
      go_ret2
      exact ⟨_, er, by first | exact Kd.R_nil _ _ _ _ _ | exact Kd.N_nil _ _ _ _ _ | exact Kd.V_nil _ _ _ _ _ | exact Kd.Q_nil _ _ _ _ _ | exact Kd.S_nil _ _ _ _ _, bw⟩
  · replace c5 := Bool.eq_false_iff.mpr c5
    subst c5
    rw [if_neg nf] at H
    simp only [Option.some.injEq, Prod.mk.injEq] at H
    obtain ⟨rfl, rfl⟩ := H
    go_enter Try.func37, Try.ntmps37
    go_wp2_with (first | ((with_reducible refine gate_callee (f := 75) rfl ?_); refine gl (some 17) Try.func75 #[.int .i64 a0, .int .i64 a1] ?_; (with_reducible refine (impl_ValidMap.calls a0 a1 false _ A4.out).mono ?_); rintro e w' ⟨rfl, ⟨nd, rfl⟩⟩; refine ⟨_, rfl, ?_⟩))
    go_ret2
    exact ⟨_, er, by first | exact Kd.R_nil _ _ _ _ _ | exact Kd.N_nil _ _ _ _ _ | exact Kd.V_nil _ _ _ _ _ | exact Kd.Q_nil _ _ _ _ _ | exact Kd.S_nil _ _ _ _ _, bw⟩

end Go.Proofs.Yteadienaeapaeaa.PK
