/- The statement FnExactStartRun, as its card says, holds of the given program: no conditions. Part 5. -/
import Derived.Test.YteadienaeapaeaaDoorV4
import Derived.Test.YteadienaeapaeaaDoorRows
import Derived.WalkKit
import Derived.ProofKit
import Derived.OpenShut
import Derived.ShutString
import Derived.ChangeOld
import Derived.Below
import Derived.OpenVars
import Derived.ChangeVars
import Derived.SizedLaws
import Derived.Lay
import Derived.LaidOnce
import Derived.SevenTiedAt
import Derived.Test.YteadienaeapaeaaDoorCards
import Derived.Test.YteadienaeapaeaaDoorTie
import Derived.Carry
set_option linter.unusedSectionVars false
set_option linter.unusedVariables false
set_option linter.unusedSimpArgs false
section
namespace Go.Vk.St
open Go Go.Proofs Go.Vk Go.Q
set_option linter.unusedVariables false
set_option linter.unusedSimpArgs false
set_option maxRecDepth 100000

theorem Pts.of_get {x r : Sl U0} {X Y : Nat → Int × Int} (hp : Pts x X Y) (hn : r.n = x.n) (hg : ∀ i, i < x.n → r.get i = x.get i) : Pts r X Y :=
  ⟨fun i hi => by rw [hg i (by omega)]; exact hp.at' i (by omega), fun i hi => hp.sX i (by omega), fun i hi => hp.sY i (by omega)⟩
section
variable {x : Sl U0} {X Y : Nat → Int × Int}
theorem Pts.cmp188 (hp : Pts x X Y) {i j : Nat} (hi : i < x.n) (hj : j < x.n) (c) : k188 (x.get i) (x.get j) c = c ((cmp (X i) (Y i) (X j) (Y j), ()), ()) :=
  q188 (hp.at' i hi) (hp.at' j hj) (hp.sX i hi) (hp.sY i hi) (hp.sX j hj) (hp.sY j hj) c
theorem Pts.cmp142 (hp : Pts x X Y) {i j : Nat} (hi : i < x.n) (hj : j < x.n) (c) : k142 (x.get i) (x.get j) c = c ((cmp (X i) (Y i) (X j) (Y j), ()), ()) :=
  q142 (hp.at' i hi) (hp.at' j hj) (hp.sX i hi) (hp.sY i hi) (hp.sX j hj) (hp.sY j hj) c
/-- The copy of the corners. -/
theorem l144 (x : Sl U0) (hn : x.n ≤ 1048576) : ∀ (m i : Nat) (o : Sl U0), i + m = x.n → o.n = i → (∀ j, j < i → o.get j = x.get j) →
    ∃ r : Sl U0, L144_6 x i o = some (s144.E ((r, ()), ())) ∧ r.n = x.n ∧ ∀ j, j < x.n → r.get j = x.get j
  | 0, i, o, h, ho, hb => by
    have : i = x.n := by omega
    subst this
    exact ⟨o, of_l (l144_6 _ _ _) (by simp only [Int.lt_irrefl, decide_false, cond_false]), ho, hb⟩
  | m + 1, i, o, h, ho, hb => by
    have hi : i < x.n := by omega
    obtain ⟨r, h1, h2⟩ := l144 x hn m (i + 1) (Sl.app tS0 o (Sl.lit tS0 [x.get i])) (by omega) (by show o.n + 1 = i + 1; omega) (fun j hj => by
      show tS0.bif (Nat.blt j o.n) (o.get j) (tS0.sel [x.get i] (j - o.n)) = _
      by_cases e : j = i
      · subst e
        rw [Ty.bif_eq, blt_iff, decide_eq_false (by omega), cond_false, ho, Nat.sub_self, Ty.sel_at tS0 [x.get j] (by simp)]; rfl
      · rw [Ty.bif_eq, blt_iff, decide_eq_true (by omega), cond_true]; exact hb j (by omega))
    refine ⟨r, of_l (l144_6 _ _ _) ?_, h2⟩
    have hm : (o.n + 1) * 48 ≤ maxRow := by unfold maxRow; omega
    simp only [Int.ofNat_lt, hi, decide_true, cond_true, Int.natCast_nonneg, if_true, Int.toNat_natCast, q182, hm, wrap_add1 (show i < 4611686018427387904 by omega)]
    exact h1
theorem q144 (x : Sl U0) (hn : x.n ≤ 1048576) : ∃ r : Sl U0, r.n = x.n ∧ (∀ j, j < x.n → r.get j = x.get j) ∧ ∀ c, k144 x c = c ((r, ()), ()) := by
  obtain ⟨r, h1, h2, h3⟩ := l144 x hn x.n 0 (Sl.mk 0 (fun k0 => (((0 : Int), (0 : Int), (0 : Int)), ((0 : Int), (0 : Int), (0 : Int))))) (by omega) rfl (fun j hj => absurd hj (Nat.not_lt_zero _))
  exact ⟨r, h2, h3, fun c => of_e (s := s144) (e144 x) rfl h1 c⟩
/-- Does the first corner come before all others? -/
def ltAll (n : Nat) (X Y : Nat → Int × Int) : Prop := ∀ i, 0 < i → i < n → cmp (X 0) (Y 0) (X i) (Y i) < 0
theorem cmp_swap (X1 Y1 X2 Y2 : Int × Int) : cmp X2 Y2 X1 Y1 = -cmp X1 Y1 X2 Y2 := by
  have e : ∀ a b c d : Int, sgn (a - b) (c - d) = -sgn (b - a) (d - c) := fun a b c d => by
    rw [sgn_sg, sgn_sg, ← Q.sg_neg']
    congr 1
    refine Q.ext' ?_ ?_
    · show (((a - b : Int)) : Rat) = -((b - a : Int) : Rat)
      rw [Rat.intCast_sub, Rat.intCast_sub]; grind
    · show (((c - d : Int)) : Rat) = -((d - c : Int) : Rat)
      rw [Rat.intCast_sub, Rat.intCast_sub]; grind
  unfold cmp
  rw [e X2.1 X1.1 X2.2 X1.2, e Y2.1 Y1.1 Y2.2 Y1.2]
  by_cases h : sgn (X1.1 - X2.1) (X1.2 - X2.2) = 0
  · rw [h]; rfl
  · have h1 : (sgn (X1.1 - X2.1) (X1.2 - X2.2) != 0) = true := by simpa using h
    have h2 : (-sgn (X1.1 - X2.1) (X1.2 - X2.2) != 0) = true := by simpa using h
    rw [h1, h2]; rfl
theorem sgn_zero {A B : Int} (h : sgn A B = 0) : A = 0 ∧ B = 0 := by
  rw [sgn_sg] at h
  have := (qi_zero (A, B)).1 (Q.sg_eq_zero.1 h)
  exact ⟨congrArg Prod.fst this, congrArg Prod.snd this⟩
theorem cmp_zero {X1 Y1 X2 Y2 : Int × Int} (h : cmp X1 Y1 X2 Y2 = 0) : X1 = X2 ∧ Y1 = Y2 := by
  unfold cmp at h
  cases g : (sgn (X1.1 - X2.1) (X1.2 - X2.2) != 0)
  · rw [g] at h
    obtain ⟨a, b⟩ := sgn_zero (show sgn (X1.1 - X2.1) (X1.2 - X2.2) = 0 by simpa using g)
    obtain ⟨c, d⟩ := sgn_zero (show sgn (Y1.1 - Y2.1) (Y1.2 - Y2.2) = 0 from h)
    exact ⟨Prod.ext (by omega) (by omega), Prod.ext (by omega) (by omega)⟩
  · rw [g] at h
    have : sgn (X1.1 - X2.1) (X1.2 - X2.2) = 0 := h
    rw [this] at g; cases g
theorem cmp_self (X1 Y1 : Int × Int) : cmp X1 Y1 X1 Y1 = 0 := by
  have := cmp_swap X1 Y1 X1 Y1; omega
/-- The program's least corner: is it the first one? -/
theorem l149 (hp : Pts x X Y) (hn : x.n ≤ 1048576) : ∀ (m i l : Nat), i + m = x.n → l < x.n → l ≤ i →
    ∃ r : Nat, L149_6 x l x ((x.n : Nat) : Int) i = some (s149.E (((r : Int), ()), ())) ∧ (l ≠ 0 → r ≠ 0) ∧ (l = 0 → (r = 0 ↔ ∀ j, i ≤ j → j < x.n → ¬ cmp (X j) (Y j) (X 0) (Y 0) < 0))
  | 0, i, l, h, hl, hli => by
    have : i = x.n := by omega
    subst this
    exact ⟨l, of_l (l149_6 _ _ _ _ _) (by simp only [Int.lt_irrefl, decide_false, cond_false]), id, fun h => ⟨fun _ j h1 h2 => by omega, fun _ => h⟩⟩
  | m + 1, i, l, h, hl, hli => by
    have hi : i < x.n := by omega
    have hc := hp.cmp188 hi hl
    cases g : decide (cmp (X i) (Y i) (X l) (Y l) < 0) with
    | true =>
      obtain ⟨r, h1, h2, h3⟩ := l149 hp hn m (i + 1) i (by omega) hi (by omega)
      have hi0 : i ≠ 0 := by
        rintro rfl
        have : l = 0 := by omega
        subst this
        rw [cmp_self] at g; cases g
      refine ⟨r, of_l (l149_6 _ _ _ _ _) ?_, fun _ => h2 hi0, fun hl0 => ⟨fun h => absurd h (h2 hi0), fun h => ?_⟩⟩
      · simp only [Int.ofNat_lt, hi, hl, decide_true, cond_true, Int.natCast_nonneg, if_true, Int.toNat_natCast, hc, g, wrap_add1 (show i < 4611686018427387904 by omega)]
        exact h1
      · subst hl0
        exact absurd (of_decide_eq_true g) (h i (Nat.le_refl _) hi)
    | false =>
      obtain ⟨r, h1, h2, h3⟩ := l149 hp hn m (i + 1) l (by omega) hl (by omega)
      refine ⟨r, of_l (l149_6 _ _ _ _ _) ?_, h2, fun hl0 => (h3 hl0).trans ⟨fun h j h4 h5 => ?_, fun h j h4 h5 => h j (by omega) h5⟩⟩
      · simp only [Int.ofNat_lt, hi, hl, decide_true, cond_true, Int.natCast_nonneg, if_true, Int.toNat_natCast, hc, g, cond_false, wrap_add1 (show i < 4611686018427387904 by omega)]
        exact h1
      · by_cases e : j = i
        · subst e; subst hl0; exact of_decide_eq_false g
        · exact h j (by omega) h5
theorem q149 (hp : Pts x X Y) (h0 : 0 < x.n) (hn : x.n ≤ 1048576) : ∃ r : Nat, (∀ c, k149 x c = c (((r : Int), ()), ())) ∧ (r = 0 ↔ ∀ j, j < x.n → ¬ cmp (X j) (Y j) (X 0) (Y 0) < 0) := by
  obtain ⟨r, h1, h2, h3⟩ := l149 hp hn x.n 0 0 (by omega) h0 (Nat.le_refl _)
  exact ⟨r, fun c => of_e (s := s149) (e149 x) rfl h1 c, (h3 rfl).trans ⟨fun h j h4 => h j (Nat.zero_le _) h4, fun h j _ h4 => h j h4⟩⟩
/-- The reference's loop over the turns. -/
theorem l97b {o : Sl Int} {D : Nat → Int} {n : Nat} (hn : n ≤ 1048576) (ho : o.n = n) (hD : ∀ j, j < n → o.get j = D j) (per : ∀ i, D (i + n) = D i) (h0 : ∀ i, 0 ≤ D i) (h1 : ∀ i, D i < 16) :
    ∀ (m i : Nat) (s : Int), i + m = n → 0 ≤ s → s ≤ 16 * i → L97_28 (n : Int) s i o = some (s97.E ((cS D m i s, ()), ()))
  | 0, i, s, h, s1, s2 => by
    have : i = n := by omega
    subst this
    exact of_l (l97_28 _ _ _ _) (by simp only [Int.lt_irrefl, decide_false, cond_false]; rfl)
  | m + 1, i, s, h, s1, s2 => by
    have hi : i < n := by omega
    refine of_l (l97_28 _ _ _ _) ?_
    have hn0 : ((n : Nat) : Int) ≠ 0 := by omega
    have hw : IntKind.i64.wrap ((i : Int) + 1) = ((i + 1 : Nat) : Int) := wrap_add1 (by omega)
    have hlt : (i + 1) % n < n := Nat.mod_lt _ (by omega)
    have e1 : o.get ((i + 1) % n) = D (i + 1) := by rw [hD _ hlt, per_mod per]
    have e2 : o.get i = D i := hD i hi
    have r1 := h0 i
    have r2 := h0 (i + 1)
    have r3 := h1 i
    have r4 := h1 (i + 1)
    have hwr : IntKind.i64.wrap (D (i + 1) - D i) = D (i + 1) - D i := wrap64 (by omega) (by omega)
    have hws : IntKind.i64.wrap (s + (D (i + 1) - D i) % 16) = s + (D (i + 1) - D i) % 16 := wrap64 (by omega) (by omega)
    have ih := l97b hn ho hD per h0 h1 m (i + 1) (s + (D (i + 1) - D i) % 16) (by omega) (by omega) (by omega)
    simp only [Int.ofNat_lt, hi, decide_true, cond_true, Int.natCast_nonneg, if_true, Int.toNat_natCast, hn0, if_false, hw, tmod_nat, ho, hlt, Nat.zero_add, e1, e2, hwr, q145 (D (i + 1) - D i) (by omega) (by omega), q88, hws, ih]
    rw [show cS D (m + 1) i s = (bif !(inT ((D (i + 1) - D i) % 16)) then false else cS D m (i + 1) (s + (D (i + 1) - D i) % 16)) from rfl]
    unfold inT
    cases inR ((D (i + 1) - D i) % 16) 1 7 <;> rfl
/-- The reference's loop over the corners: all are valid. -/
theorem l97a (hp : Pts x X Y) (hv : ∀ j, j < x.n → valP (x.get j) = true) (hn : x.n ≤ 1048576) {ret : Ret} (hR : L97_10 x ((x.n : Nat) : Int) ((x.n : Nat) : Int) = some ret) : ∀ (m i : Nat), i + m = x.n →
    ((∃ j, i ≤ j ∧ j < x.n ∧ 0 < j ∧ ¬ cmp (X 0) (Y 0) (X j) (Y j) < 0) ∧ L97_10 x ((x.n : Nat) : Int) i = some (s97.E ((false, ()), ()))) ∨
    ((∀ j, i ≤ j → j < x.n → 0 < j → cmp (X 0) (Y 0) (X j) (Y j) < 0) ∧ L97_10 x ((x.n : Nat) : Int) i = some ret)
  | 0, i, h => by
    have : i = x.n := by omega
    subst this
    exact .inr ⟨fun j h1 h2 => by omega, hR⟩
  | m + 1, i, h => by
    have hi : i < x.n := by omega
    have hn0 : (0 : Int) < ((x.n : Nat) : Int) := by omega
    have ih := l97a hp hv hn hR m (i + 1) (by omega)
    by_cases hz : i = 0
    · subst hz
      rcases ih with ⟨⟨j, a1, a2, a3, a4⟩, b⟩ | ⟨a, b⟩
      · refine .inl ⟨⟨j, by omega, a2, a3, a4⟩, of_l (l97_10 _ _ _) ?_⟩
        simp only [Int.ofNat_lt, hi, decide_true, cond_true, Int.natCast_nonneg, if_true, Int.toNat_natCast, q141, hv 0 hi, Bool.not_true, cond_false, (show decide (((0 : Nat) : Int) > 0) = false from rfl), wrap_add1 (show 0 < 4611686018427387904 by omega)]
        exact b
      · refine .inr ⟨fun j h1 h2 h3 => a j (by omega) h2 h3, of_l (l97_10 _ _ _) ?_⟩
        simp only [Int.ofNat_lt, hi, decide_true, cond_true, Int.natCast_nonneg, if_true, Int.toNat_natCast, q141, hv 0 hi, Bool.not_true, cond_false, (show decide (((0 : Nat) : Int) > 0) = false from rfl), wrap_add1 (show 0 < 4611686018427387904 by omega)]
        exact b
    · have hpos : decide ((i : Int) > 0) = true := decide_eq_true (by omega)
      have cc := hp.cmp142 (show 0 < x.n by omega) hi
      cases g : decide (cmp (X 0) (Y 0) (X i) (Y i) ≥ 0) with
      | true =>
        refine .inl ⟨⟨i, Nat.le_refl _, hi, by omega, by have := of_decide_eq_true g; omega⟩, of_l (l97_10 _ _ _) ?_⟩
        simp only [Int.ofNat_lt, hi, decide_true, cond_true, Int.natCast_nonneg, if_true, Int.toNat_natCast, q141, hv i hi, Bool.not_true, cond_false, hpos, hn0, cc, g]
      | false =>
        rcases ih with ⟨⟨j, a1, a2, a3, a4⟩, b⟩ | ⟨a, b⟩
        · refine .inl ⟨⟨j, by omega, a2, a3, a4⟩, of_l (l97_10 _ _ _) ?_⟩
          simp only [Int.ofNat_lt, hi, decide_true, cond_true, Int.natCast_nonneg, if_true, Int.toNat_natCast, q141, hv i hi, Bool.not_true, cond_false, hpos, hn0, cc, g, wrap_add1 (show i < 4611686018427387904 by omega)]
          exact b
        · refine .inr ⟨fun j h1 h2 h3 => ?_, of_l (l97_10 _ _ _) ?_⟩
          · by_cases e : j = i
            · subst e; have := of_decide_eq_false g; omega
            · exact a j (by omega) h2 h3
          · simp only [Int.ofNat_lt, hi, decide_true, cond_true, Int.natCast_nonneg, if_true, Int.toNat_natCast, q141, hv i hi, Bool.not_true, cond_false, hpos, hn0, cc, g, wrap_add1 (show i < 4611686018427387904 by omega)]
            exact b
/-- The reference's loop over the corners: one is not valid. -/
theorem l97v (hn : x.n ≤ 1048576) {j0 : Nat} (hj : j0 < x.n) (hb : valP (x.get j0) = false) (hv : ∀ j, j < j0 → valP (x.get j) = true) : ∀ (m i : Nat), i + m = j0 → L97_10 x ((x.n : Nat) : Int) i = some (s97.E ((false, ()), ()))
  | 0, i, h => by
    have : i = j0 := by omega
    subst this
    refine of_l (l97_10 _ _ _) ?_
    simp only [Int.ofNat_lt, hj, decide_true, cond_true, Int.natCast_nonneg, if_true, Int.toNat_natCast, q141, hb, Bool.not_false]
  | m + 1, i, h => by
    have hi : i < x.n := by omega
    have hn0 : (0 : Int) < ((x.n : Nat) : Int) := by omega
    have ih := l97v hn hj hb hv m (i + 1) (by omega)
    have hvi := hv i (by omega)
    refine of_l (l97_10 _ _ _) ?_
    by_cases hz : i = 0
    · subst hz
      simp only [Int.ofNat_lt, hi, decide_true, cond_true, Int.natCast_nonneg, if_true, Int.toNat_natCast, q141, hvi, Bool.not_true, cond_false, (show decide (((0 : Nat) : Int) > 0) = false from rfl), wrap_add1 (show 0 < 4611686018427387904 by omega)]
      exact ih
    · obtain ⟨X0, Y0, a1, a2, a3⟩ := valP_at (hv 0 (by omega))
      obtain ⟨X1, Y1, b1, b2, b3⟩ := valP_at hvi
      have cc := q142 a1 b1 a2 a3 b2 b3
      have hpos : decide ((i : Int) > 0) = true := decide_eq_true (by omega)
      simp only [Int.ofNat_lt, hi, decide_true, cond_true, Int.natCast_nonneg, if_true, Int.toNat_natCast, q141, hvi, Bool.not_true, cond_false, hpos, hn0, cc, wrap_add1 (show i < 4611686018427387904 by omega), ih]
      cases decide (cmp X0 Y0 X1 Y1 ≥ 0) <;> rfl
theorem sideD_per (n : Nat) (X Y : Nat → Int × Int) (i : Nat) : sideD n X Y (i + n) = sideD n X Y i := by
  unfold sideD
  rw [Nat.add_mod_right, show i + n + 1 = i + 1 + n by omega, Nat.add_mod_right]
theorem sideD_lt (n : Nat) (X Y : Nat → Int × Int) (i : Nat) : sideD n X Y i < 16 := by
  rcases sideD_range n X Y i with h | h <;> omega
/-- What the reference says behind its loop over the corners. -/
theorem l97e (hp : Pts x X Y) (h3 : 3 ≤ x.n) (hn : x.n ≤ 1048576) : ∃ b : Bool, L97_10 x ((x.n : Nat) : Int) ((x.n : Nat) : Int) = some (s97.E ((b, ()), ())) ∧ (b = true ↔ Conv x.n (sideD x.n X Y)) := by
  obtain ⟨r, r1, r2, r3⟩ := q144 x hn
  have hr := hp.of_get r1 r2
  obtain ⟨o, b, o1, o2, o3⟩ := l143 hr (by omega) (by omega) r.n 0 (Sl.mk 0 (fun k0 => (0 : Int))) (by omega) rfl (fun j hj => absurd hj (Nat.not_lt_zero _))
  have c143 : ∀ c, k143 r c = c ((o, b, ()), ()) := fun c => of_e (s := s143) (e143 r) rfl o1 c
  rw [r1] at o2 o3
  cases b with
  | false =>
    obtain ⟨j, j1, j2⟩ := o3 rfl
    refine ⟨false, of_l (l97_10 _ _ _) ?_, fun h => (by cases h), fun h => ?_⟩
    · simp only [Int.lt_irrefl, decide_false, cond_false, r3, c143, Bool.not_false, cond_true]
    · have := h.1 j; omega
  | true =>
    obtain ⟨o4, o5⟩ := o2 rfl
    have h0 : ∀ i, 0 ≤ sideD x.n X Y i := fun i => by
      rw [← per_mod (sideD_per x.n X Y) i]
      exact (o5 (i % x.n) (Nat.mod_lt _ (by omega))).2
    refine ⟨cS (sideD x.n X Y) x.n 0 0, of_l (l97_10 _ _ _) ?_, cS_conv (by omega) (sideD_per x.n X Y) (sideD_lt x.n X Y) h0⟩
    simp only [Int.lt_irrefl, decide_false, cond_false, r3, c143, Bool.not_true]
    exact l97b hn o4 (fun j hj => (o5 j hj).1) (sideD_per x.n X Y) h0 (sideD_lt x.n X Y) x.n 0 0 (by omega) (Int.le_refl _) (Int.le_refl _)
/-- A convex line's corners, as a round. -/
theorem conv_round {n : Nat} {X Y : Nat → Int × Int} (h3 : 3 ≤ n) (h : Conv n (sideD n X Y)) : Round n (fun i => pz (X (i % n)) (Y (i % n))) (dN (sideD n X Y)) where
  n3 := h3
  perP i := by simp only [Nat.add_mod_right]
  perD i := by unfold dN; rw [sideD_per]
  lt i := by
    have := sideD_lt n X Y i
    have := h.1 i
    unfold dN; omega
  edge i := by
    have := (dirN_along 16 0 (sub2 (X ((i + 1) % n)) (X (i % n))) (sub2 (Y ((i + 1) % n)) (Y (i % n))) rfl (h.1 i)).2
    have e : pz (sub2 (X ((i + 1) % n)) (X (i % n))) (sub2 (Y ((i + 1) % n)) (Y (i % n))) = mi (pz (X ((i + 1) % n)) (Y ((i + 1) % n))) (pz (X (i % n)) (Y (i % n))) := by
      unfold pz mi
      simp only [qi_sub]; rfl
    rw [e] at this
    exact this
  turn i := h.2.1 i
  sum := h.2.2
theorem least_iff {n : Nat} {X Y : Nat → Int × Int} (h3 : 3 ≤ n) (h : Conv n (sideD n X Y)) : (∀ j, j < n → ¬ cmp (X j) (Y j) (X 0) (Y 0) < 0) ↔ ∀ j, 0 ≤ j → j < n → 0 < j → cmp (X 0) (Y 0) (X j) (Y j) < 0 := by
  constructor
  · intro hl j _ h1 h2
    have a := hl j h1
    have b := cmp_swap (X 0) (Y 0) (X j) (Y j)
    have c : cmp (X 0) (Y 0) (X j) (Y j) ≠ 0 := fun e => by
      obtain ⟨e1, e2⟩ := cmp_zero e
      have := (conv_round h3 h).ne 0 j h2 h1
      simp only [Nat.zero_add, Nat.mod_eq_of_lt h1, Nat.zero_mod] at this
      rw [e1, e2] at this
      exact this rfl
    omega
  · intro hl j h1
    by_cases e : j = 0
    · subst e; rw [cmp_self]; omega
    · have a := hl j (by omega) h1 (by omega)
      have b := cmp_swap (X 0) (Y 0) (X j) (Y j)
      omega
theorem q146 (x : Sl U0) (c) : k146 x c = c ((((x.n : Nat) : Int), ()), ()) := of_e (s := s146) (e146 x) rfl rfl c
theorem coreP : CoreP := by
  intro x hw hn
  by_cases hlen : 3 ≤ x.n ∧ x.n ≤ 16
  · obtain ⟨h3, h16⟩ := hlen
    have hr : inR ((x.n : Nat) : Int) 3 16 = true := by
      unfold inR; rw [Bool.and_eq_true, decide_eq_true_eq, decide_eq_true_eq]; omega
    have g1 : decide (((x.n : Nat) : Int) < 3) = false := decide_eq_false (by omega)
    have g2 : decide (((x.n : Nat) : Int) > 16) = false := decide_eq_false (by omega)
    cases hv : allV x 0 x.n with
    | false =>
      refine ⟨false, fun c => of_e (s := s98) (e98 x) rfl ?_ c, fun c => of_e (s := s97) (e97 x) rfl ?_ c, fun h => by cases h⟩
      · simp only [q146, q53, hr, cond_true, q147 x hn, hv, cond_false]; rfl
      · have : ∃ j, j < x.n ∧ valP (x.get j) = false := by
          refine Classical.byContradiction fun hno => ?_
          have hall : ∀ m i, i + m = x.n → allV x i m = true := fun m => by
            induction m with
            | zero => intro i _; rfl
            | succ m ih =>
              intro i h
              unfold allV
              rw [ih (i + 1) (by omega), Bool.and_true]
              cases e : valP (x.get i) with
              | true => rfl
              | false => exact absurd ⟨i, by omega, e⟩ hno
          rw [hall x.n 0 (by omega)] at hv; cases hv
        have hex : ∃ j, j < x.n ∧ valP (x.get j) = false ∧ ∀ i, i < j → valP (x.get i) = true := by
          obtain ⟨j, j1, j2⟩ := this
          induction j using Nat.strongRecOn with
          | ind j ih =>
            by_cases hm : ∃ i, i < j ∧ valP (x.get i) = false
            · obtain ⟨i, i1, i2⟩ := hm
              exact ih i i1 (by omega) i2
            · refine ⟨j, j1, j2, fun i hi => ?_⟩
              cases e : valP (x.get i) with
              | true => rfl
              | false => exact absurd ⟨i, hi, e⟩ hm
        obtain ⟨j, j1, j2, j3⟩ := hex
        simp only [g1, g2, cond_false]
        exact l97v hn j1 j2 j3 j 0 (by omega)
    | true =>
      have hv' : ∀ j, j < x.n → valP (x.get j) = true := fun j hj => allV_at x x.n 0 hv j (Nat.zero_le _) (by omega)
      obtain ⟨X, Y, hp⟩ := pts_of hv'
      obtain ⟨b, b1, b2⟩ := l97e hp h3 hn
      obtain ⟨r, r1, r2⟩ := q149 hp (by omega) hn
      have hc := q148 hp h3 hn
      have hcc := cI_conv (D := sideD x.n X Y) (n := x.n) (by omega) (sideD_per x.n X Y) (sideD_lt x.n X Y)
      have hl := l97a hp hv' hn b1 x.n 0 (by omega)
      cases hC : cI (sideD x.n X Y) x.n 0 0 (sideD x.n X Y (x.n - 1)) with
      | false =>
        have hb : b = false := by
          cases b with
          | false => rfl
          | true => rw [hcc.2 (b2.1 rfl)] at hC; cases hC
        subst hb
        refine ⟨false, fun c => of_e (s := s98) (e98 x) rfl ?_ c, fun c => of_e (s := s97) (e97 x) rfl ?_ c, fun h => by cases h⟩
        · simp only [q146, q53, hr, cond_true, q147 x hn, hv, hc, hC, cond_false]; rfl
        · simp only [g1, g2, cond_false]
          rcases hl with ⟨_, e⟩ | ⟨_, e⟩ <;> exact e
      | true =>
        have hconv := hcc.1 hC
        have hb : b = true := b2.2 hconv
        subst hb
        have hli := least_iff h3 hconv
        rcases hl with ⟨⟨j, j1, j2, j3, j4⟩, e⟩ | ⟨a, e⟩
        · have hr0 : r ≠ 0 := fun h => j4 (hli.1 (r2.1 h) j j1 j2 j3)
          refine ⟨false, fun c => of_e (s := s98) (e98 x) rfl ?_ c, fun c => of_e (s := s97) (e97 x) rfl ?_ c, fun h => by cases h⟩
          · have : ((r : Int) == 0) = false := by rw [beqD]; exact decide_eq_false (by omega)
            simp only [q146, q53, hr, cond_true, q147 x hn, hv, hc, hC, r1, this]; rfl
          · simp only [g1, g2, cond_false]; exact e
        · have hr0 : r = 0 := r2.2 (hli.2 a)
          refine ⟨true, fun c => of_e (s := s98) (e98 x) rfl ?_ c, fun c => of_e (s := s97) (e97 x) rfl ?_ c, fun _ => h16⟩
          · have : ((r : Int) == 0) = true := by rw [beqD]; exact decide_eq_true (by omega)
            simp only [q146, q53, hr, cond_true, q147 x hn, hv, hc, hC, r1, this]; rfl
          · simp only [g1, g2, cond_false]; exact e
  · refine ⟨false, fun c => of_e (s := s98) (e98 x) rfl ?_ c, fun c => of_e (s := s97) (e97 x) rfl ?_ c, fun h => by cases h⟩
    · have hr : inR ((x.n : Nat) : Int) 3 16 = false := by
        cases e : inR ((x.n : Nat) : Int) 3 16 with
        | false => rfl
        | true =>
          unfold inR at e; rw [Bool.and_eq_true, decide_eq_true_eq, decide_eq_true_eq] at e
          exact absurd ⟨by omega, by omega⟩ hlen
      simp only [q146, q53, hr, cond_false]; rfl
    · by_cases h : x.n < 3
      · have g1 : decide (((x.n : Nat) : Int) < 3) = true := decide_eq_true (by omega)
        simp only [g1, cond_true]; rfl
      · have g1 : decide (((x.n : Nat) : Int) < 3) = false := decide_eq_false (by omega)
        have g2 : decide (((x.n : Nat) : Int) > 16) = true := decide_eq_true (by omega)
        simp only [g1, g2, cond_true, cond_false]; rfl
theorem core : Core := core_of coreP
end
end Go.Vk.St
end

section
namespace Go.Vk.St
open Go Go.Proofs Go.Vk Go.ChangeShapes Go.WideShapes Go.ChangeAt Go.RowKit Go.Proofs.YteadienaeapaeaaDoor
set_option linter.unusedVariables false
theorem own : ownKnob Tryd.prog.godebug = none := by kernel_rfl
theorem laidOut : laidOutB Tryd.prog = true := by kernel_rfl
set_option maxRecDepth 100000
theorem globs {W : World} (h : laidMetH Tryd.prog Rows.fnExactStartRunRow.laid W) : ∀ g row, Gs g = some row → Rep W (Old W) false (.pv none row 0) (.pointer (some ⟨g, 0, none⟩)) none' := by
  rw [MakeChecks.laidMetH_plain _ _ _ (by kernel_rfl)] at h
  obtain ⟨ps, ⟨g, t, cs, fuel, p, q, hg, ht, hv, hd, _, _⟩, _, _⟩ := h
  obtain rfl := Option.some.inj ((show Tryd.prog.globalNamed "loop.example/g00857/impl.vectors" = some 5 by kernel_rfl).symm.trans hg)
  obtain rfl := Option.some.inj ((show (Tryd.prog.globals[5]?).map (·.type) = some 271 by kernel_rfl).symm.trans ht)
  have hcs := lay_dat 9 271 (by kernel_rfl) 9 (Nat.le_refl _) _ _ _ hd
  intro g row hrow
  have key : g = 5 ∧ row = fD 9 Rows.laid_loop_example_g00857_impl_vectors := by
    unfold Gs at hrow
    simp only [look] at hrow
    cases hb : Nat.beq 5 g with
    | false => rw [hb] at hrow; cases hrow
    | true =>
      rw [hb] at hrow
      refine ⟨(Nat.eq_of_beq_eq_true hb).symm, ?_⟩
      have e := Option.some.inj hrow
      rw [← e]; rfl
  obtain ⟨rfl, rfl⟩ := key
  refine glob_rep (by decide) (by decide) hcs fun r hr => ?_
  rw [World.var?_cell hg hv r]; simp
theorem lifted (core : Core) (os : Os) (started : os.Started) (H : Type) (enc : TypeId × Value → H) :
    ReturnsInHanded {} Tryd.checked os 6 .any (fun w args => (Rows.fnExactStartRunSpec.pre enc Tryd.prog Tryd.f6 [] false w args ∧ laidMetH Tryd.prog Rows.fnExactStartRunRow.laid w) ∧ sizedMet enc Tryd.prog Tryd.f6 (OpenSpec.ofChange Rows.fnExactStartRunSpec) false w args)
      (Rows.fnExactStartRunSpec.post enc Tryd.prog Tryd.f6 false true false false) := by
  refine returnsInHanded_of_change_and (C := Tryd.checked) (X := fun w _ => laidMetH Tryd.prog Rows.fnExactStartRunRow.laid w) (fun _ _ _ hh h => h.of_heap hh) own started (by kernel_rfl) Tryd.func6
    (ChangeSpec.witness_shaped (enc := enc) (C := Tryd.checked) (os := os) (X := fun w _ => laidMetH Tryd.prog Rows.fnExactStartRunRow.laid w) false (World.laidAll Tryd.prog os Rows.fnExactStartRunRow.laid) #[.slice none 0 0] 8 (World.laidAll_os _ _ _)
      (World.shaped_of_ZipB (by kernel_rfl) (by kernel_rfl)) (by kernel_rfl) (by kernel_rfl) (by kernel_rfl)
      (by rw [MakeChecks.laidMetH_plain _ _ _ (by kernel_rfl)]; exact laidMet_laidAll _ (by kernel_rfl) (by kernel_rfl))) ?_
  intro W base args ds gs before hval0 hW _ _ hL _
  have hval : ∀ (j : Nat) t v, Tryd.f6.params[j]? = some t → args[j]? = some v → Value.okWide Tryd.prog W .any base t v := hval0
  have hW' := hW
  obtain ⟨p, q, hA0, hV0, rfl, hfz, hnd⟩ := hW
  have hA : DataW.TrodAll enc Tryd.prog W 0 (fun _ => true) true Tryd.f6.params.toList args.toList ds p := hA0
  have hV : DataW.TrodVars enc Tryd.prog W (fun _ => true) ["loop.example/g00857/impl.vectors"] gs q := hV0
  rw [show Tryd.f6.params = #[45] from rfl] at hA hval
  obtain ⟨v0, vs0, d0, ds0, p0, q0, hargs, rfl, rfl, h0, r0⟩ := trodAll_cons hA
  obtain ⟨rfl, rfl, rfl⟩ := trodAll_nil r0
  obtain rfl : args = #[v0] := by cases args; simp_all
  have lt0 : ∀ x ∈ p0, x.block < W.heap.size := by obtain ⟨m, hm⟩ := h0; exact DataW.trod_lt m _ _ _ hm
  obtain ⟨s, hs, ha⟩ := arg_sl (e := tS0) (n := 12) (te := 99) (show Tryd.prog.underlying 45 = some (.slice 99) by kernel_rfl) (hval 0 45 v0 rfl rfl) h0 (by kernel_rfl)
  obtain ⟨_, _, _, _, dv, _, hgs, _⟩ := trodVars_one hV
  subst hgs
  refine (law_calls (P := Tryd.prog) (M := Ms) (L := Ls) (G := Gs) (f := 6) (args := [svl tS0 s]) (vals := #[v0]) (by kernel_rfl) rfl (globs hL) rfl (fun i hi => ?_) (law core s hs)).mono fun e W' hpost => ?_
  · have : i = 0 := by simpa using hi
    subst this
    exact ha
  obtain ⟨he, bel⟩ := hpost
  subst he
  exact ⟨_, rfl, _, _, _, [], _, _, hW', trodAll_mk1 (shut_bool (show Tryd.prog.underlying 4 = some .bool by kernel_rfl) _), (trodAll_cons_mk (Below.trod laidOut (by kernel_rfl) (of_decide_eq_true (by kernel_rfl)) h0 bel lt0) trodAll_mk0), Below.trodVars laidOut bel (by kernel_rfl) hV, bel.frame _, fun h => by cases h⟩
theorem over (core : Core) : Rows.fnExactStartRunRow.holds Tryd.pinned (OpenSpec.ofChange Rows.fnExactStartRunSpec) :=
  OpenClaim.holds_of_wide 6 Tryd.f6 rfl rfl rfl rfl rfl rfl rfl ⟨rfl, rfl, rfl, rfl, rfl⟩ rfl rfl rfl rfl rfl (by kernel_rfl) Tryd.func6 (by kernel_rfl)
    (of_decide_eq_true (by kernel_rfl)) (by unfold Func.isWrapper; first | (rw [if_pos (by decide +kernel)]; kernel_rfl) | (rw [if_neg (by decide +kernel)]; exact ⟨rfl, rfl⟩))
    (fun os started H enc _ => lifted core os started H enc)
theorem proved (core : Core) : Rows.FnExactStartRunSaid := over core
theorem card (core : Core) : Rows.FnExactStartRunCardSaid :=
  Claim7.holds_tied_plain_at .later [] [.data] true (true, "43177b245779c98fe7c0afcb8212df7d7fb064b3933621a0e83aabe142a2b548") true (proved core) (fun _ h => by cases h) (by kernel_rfl) (fun _ h => by cases h) fnExactStartRun_row_tie rfl ⟨rfl, rfl⟩ (by kernel_rfl) rfl
    (fun f fn hf hfn => by
      obtain rfl : f = 6 := Option.some.inj ((show Tryd.prog.funcNamed "loop.example/g00857/laws.FnExactStartRun" = some 6 by kernel_rfl).symm.trans hf) |>.symm
      obtain rfl : fn = Tryd.f6 := (Option.some.inj (Tryd.func6.symm.trans hfn)).symm
      exact ⟨by kernel_rfl, fun j t ht => by
        rw [show Tryd.f6.params = #[45] from rfl] at ht
        have hm : t ∈ [45] := by simpa using Array.mem_of_getElem? ht
        have hall : ([45].all fun u => !Tryd.prog.wantsStandIn u) = true := by kernel_rfl
        exact (show Tryd.prog.wantsStandIn t = false by simpa using List.all_eq_true.1 hall t hm)⟩)
    (by kernel_rfl)
end Go.Vk.St
end

section
namespace Go.Proofs.YteadienaeapaeaaDoor
open Go
/-- StartRun of the program gives what the reference gives, for each list of points. -/
theorem fnExactStartRun_holds : Rows.FnExactStartRunCardSaid := Go.Vk.St.card Go.Vk.St.core
end Go.Proofs.YteadienaeapaeaaDoor
end
