/- The programs that the reference draws: they are programs, with short names. -/
import Derived.Test.YteadienaeapaeaaDoorZprDrawW
import Derived.Test.YteadienaeapaeaaDoorZprProgW
import Derived.Test.YteadienaeapaeaaDoorZprPWx23
import Derived.Lib.Strings
namespace Go.Proofs.YteadienaeapaeaaDoor.ProgDrawW
open Go Go.RowKit Go.Proofs.YteadienaeapaeaaDoorW.PrintWords Go.Proofs.YteadienaeapaeaaDoorW.PrintLast Go.Proofs.YteadienaeapaeaaDoorW.PrintMore Go.Proofs.YteadienaeapaeaaDoor.Base Go.Proofs.YteadienaeapaeaaDoor.NameW Go.Proofs.YteadienaeapaeaaDoor.StepW Go.Proofs.YteadienaeapaeaaDoor.ProgW Go.Proofs.YteadienaeapaeaaDoor.DrawW Go.Proofs.YteadienaeapaeaaDoor.PW
theorem empty_nil : emptyB (⟨#[]⟩ : ByteArray) = true := by rw [empty_iff, Lib.toList_data]
theorem low_loop (n : Nat) (hn : n ≤ 1000) : ∀ a b : Int, ∃ r, Ev (fun k => spec_l01Low.l0 k a b (n : Int)) r := by
  induction n with
  | zero =>
    intro a b
    have hj : Ev (fun k => spec_l01Low.j2 k false a b ((0 : Nat) : Int)) (a, b, ((0 : Nat) : Int)) := ev_one fun k => by
      simp only [spec_l01Low.j2]
      rw [if_neg (by simp)]
    refine ⟨_, ev_step hj fun k => ?_⟩
    simp only [spec_l01Low.l0]
    rw [if_neg (by omega)]
  | succ n ih =>
    intro a b
    have stop : Ev (fun k => spec_l01Low.j2 k false a b ((n + 1 : Nat) : Int)) (a, b, ((n + 1 : Nat) : Int)) := ev_one fun k => by
      simp only [spec_l01Low.j2]
      rw [if_neg (by simp)]
    by_cases ha : Int.tmod a 2 = 0
    · cases hb : (Int.tmod b 2 == 0) with
      | true =>
        obtain ⟨r, h⟩ := ih (by omega) (wrap64 (Int.tdiv a 2)) (wrap64 (Int.tdiv b 2))
        have hj : Ev (fun k => spec_l01Low.j2 k true a b ((n + 1 : Nat) : Int)) r := ev_step h fun k => by
          simp only [spec_l01Low.j2]
          rw [if_pos trivial, show wrap64 (((n + 1 : Nat) : Int) - 1) = (n : Int) by rw [w64 (by omega) (by omega)]; omega]
        refine ⟨r, ev_step hj fun k => ?_⟩
        simp only [spec_l01Low.l0]
        rw [if_pos (by omega), if_pos ha, hb]
      | false =>
        refine ⟨_, ev_step stop fun k => ?_⟩
        simp only [spec_l01Low.l0]
        rw [if_pos (by omega), if_pos ha, hb]
    · refine ⟨_, ev_step stop fun k => ?_⟩
      simp only [spec_l01Low.l0]
      rw [if_pos (by omega), if_neg ha]
theorem low_tells (a b c : Int) (h0 : 0 ≤ c) (h1 : c ≤ 1000) : ∃ r, Ev (fun k => spec_l01Low.f k a b c) r := by
  obtain ⟨n, rfl⟩ : ∃ n : Nat, c = n := ⟨c.toNat, by omega⟩
  obtain ⟨r, h⟩ := low_loop n (by omega) a b
  have hj : ∀ x : Bool, ∃ r, Ev (fun k => spec_l01Low.j0 k x a b (n : Int)) r := fun x => by
    cases x with
    | true => exact ⟨_, ev_one fun k => by simp only [spec_l01Low.j0]; rw [if_pos trivial]⟩
    | false => exact ⟨r, ev_step h fun k => by simp only [spec_l01Low.j0]; rw [if_neg (by simp)]⟩
  unfold spec_l01Low.f
  by_cases ha : a = 0
  · obtain ⟨r, h⟩ := hj (b == 0)
    exact ⟨r, ev_pos ha h⟩
  · obtain ⟨r, h⟩ := hj false
    exact ⟨r, ev_neg ha h⟩
theorem num_draw (a b c : Int) (h0 : 0 ≤ c) (h1 : c ≤ 1000) : ∃ r, Ev (fun k => spec_l01Num.f k a b c) r ∧ (r.2.2.2 = true → numB r.1 r.2.1 r.2.2.1 = true) := by
  obtain ⟨r, h⟩ := low_tells a b c h0 h1
  unfold spec_l01Num.f
  have hn := num_spec r.1 r.2.1 r.2.2
  cases hb : numB r.1 r.2.1 r.2.2 with
  | true =>
    rw [hb] at hn
    exact ⟨_, ev_bind h (ev_bind hn (ev_pos rfl (ev_some _))), fun _ => hb⟩
  | false =>
    rw [hb] at hn
    exact ⟨_, ev_bind h (ev_bind hn (ev_neg (by simp) (ev_some _))), fun x => by cases x⟩
theorem among_tells {s : List Int} (hs : Bytes s) (p q : Int) (l : List Int) (hl : 1 ≤ l.length) (h0 : 0 ≤ p) (h1 : p ≤ 4611686018427387900) : ∃ v p' q', Ev (fun k => spec_l00Src_among.f k s p q l) (v, p', q') ∧ p ≤ p' ∧ p' ≤ p + 2 := by
  obtain ⟨v, p', q', h, hv0, hv1, h2, h3⟩ := pick_tells hs p q l.length h0 h1
  have hv := hv1 (by omega)
  unfold spec_l00Src_among.f
  exact ⟨_, p', q', ev_bind h (ev_pos hv0 (ev_pos hv (ev_some _))), h2, h3⟩
section
variable {s : List Int} (hs : Bytes s)
include hs
omit hs in
theorem num_j2 (p q a b c : Int) (h0 : 0 ≤ c) (h1 : c ≤ 1000) : ∃ x y z, Ev (fun k => spec_l01Draw.j2 k s p q a b c) (x, y, z, p, q) ∧ numB x y z = true := by
  obtain ⟨r, h, hr⟩ := num_draw a b c h0 h1
  cases hb : r.2.2.2 with
  | true =>
    refine ⟨r.1, r.2.1, r.2.2.1, ev_step (f := fun k => (spec_l01Num.f k a b c).bind fun bt397 => (if bt397.2.2.2 = true then (some (bt397.1, bt397.2.1, bt397.2.2.1, p, q)) else (some (1, 0, 0, p, q)))) (ev_bind h (ev_pos hb (ev_some _))) fun k => ?_, hr hb⟩
    simp only [spec_l01Draw.j2]
  | false =>
    refine ⟨1, 0, 0, ev_step (f := fun k => (spec_l01Num.f k a b c).bind fun bt397 => (if bt397.2.2.2 = true then (some (bt397.1, bt397.2.1, bt397.2.2.1, p, q)) else (some (1, 0, 0, p, q)))) (ev_bind h (ev_neg (by simp [hb]) (ev_some _))) fun k => ?_, by decide⟩
    simp only [spec_l01Draw.j2]
theorem num_j1 (p q a b c : Int) (h0 : 0 ≤ c) (h1 : c ≤ 1000) (g0 : 0 ≤ p) (g1 : p ≤ 1000000) : ∃ x y z p' q', Ev (fun k => spec_l01Draw.j1 k s p q a b c) (x, y, z, p', q') ∧ numB x y z = true ∧ p ≤ p' ∧ p' ≤ p + 8 := by
  obtain ⟨v, p1, q1, e1, b1, t1⟩ := one_tells hs p q 12 g0 (by omega)
  have unf : ∀ k, spec_l01Draw.j1 (k + 1) s p q a b c = (spec_l00Src_one.f k s p q 12).bind fun bt379 => (if bt379.1 = true then ((spec_l00Src_among.f k s bt379.2.1 bt379.2.2 (([131072, (-131072), 99999, 46341, 1] : List Int))).bind fun bt385 => ((spec_l00Src_among.f k s bt385.2.1 bt385.2.2 (([131072, (-131072), (-92681), (-70710), 32768] : List Int))).bind fun bt391 => ((spec_l00Src_pick.f k s bt391.2.1 bt391.2.2 11).bind fun bt394 => (spec_l01Draw.j2 k s bt394.2.1 bt394.2.2 bt385.1 bt391.1 bt394.1)))) else (spec_l01Draw.j2 k s bt379.2.1 bt379.2.2 a b c)) := fun k => by simp only [spec_l01Draw.j1]
  cases v with
  | true =>
    obtain ⟨v2, p2, q2, e2, b2, t2⟩ := among_tells hs p1 q1 ([131072, (-131072), 99999, 46341, 1] : List Int) (by simp) (by omega) (by omega)
    obtain ⟨v3, p3, q3, e3, b3, t3⟩ := among_tells hs p2 q2 ([131072, (-131072), (-92681), (-70710), 32768] : List Int) (by simp) (by omega) (by omega)
    obtain ⟨v4, p4, q4, e4, c4, d4, b4, t4⟩ := pick_tells hs p3 q3 11 (by omega) (by omega)
    obtain ⟨x, y, z, e5, hn⟩ := num_j2 (s := s) p4 q4 v2 v3 v4 c4 (by have := d4 (by omega); omega)
    exact ⟨x, y, z, p4, q4, ev_step (ev_bind e1 (ev_pos rfl (ev_bind e2 (ev_bind e3 (ev_bind e4 e5))))) unf, hn, by omega, by omega⟩
  | false =>
    obtain ⟨x, y, z, e5, hn⟩ := num_j2 (s := s) p1 q1 a b c h0 h1
    exact ⟨x, y, z, p1, q1, ev_step (ev_bind e1 (ev_neg (by simp) e5)) unf, hn, by omega, by omega⟩
theorem num_j0 (p q a b c : Int) (h0 : 0 ≤ c) (h1 : c ≤ 1000) (g0 : 0 ≤ p) (g1 : p ≤ 999990) : ∃ x y z p' q', Ev (fun k => spec_l01Draw.j0 k s p q a b c) (x, y, z, p', q') ∧ numB x y z = true ∧ p ≤ p' ∧ p' ≤ p + 12 := by
  obtain ⟨v, p1, q1, e1, b1, t1⟩ := one_tells hs p q 3 g0 (by omega)
  have unf : ∀ k, spec_l01Draw.j0 (k + 1) s p q a b c = (spec_l00Src_one.f k s p q 3).bind fun bt373 => (if bt373.1 = true then ((spec_l00Src_pick.f k s bt373.2.1 bt373.2.2 4).bind fun bt376 => (spec_l01Draw.j1 k s bt376.2.1 bt376.2.2 a b bt376.1)) else (spec_l01Draw.j1 k s bt373.2.1 bt373.2.2 a b c)) := fun k => by simp only [spec_l01Draw.j0]
  cases v with
  | true =>
    obtain ⟨v4, p4, q4, e4, c4, d4, b4, t4⟩ := pick_tells hs p1 q1 4 (by omega) (by omega)
    obtain ⟨x, y, z, p5, q5, e5, hn, b5, t5⟩ := num_j1 hs p4 q4 a b v4 c4 (by have := d4 (by omega); omega) (by omega) (by omega)
    exact ⟨x, y, z, p5, q5, ev_step (ev_bind e1 (ev_pos rfl (ev_bind e4 e5))) unf, hn, by omega, by omega⟩
  | false =>
    obtain ⟨x, y, z, p5, q5, e5, hn, b5, t5⟩ := num_j1 hs p1 q1 a b c h0 h1 (by omega) (by omega)
    exact ⟨x, y, z, p5, q5, ev_step (ev_bind e1 (ev_neg (by simp) e5)) unf, hn, by omega, by omega⟩
theorem draw_num (p q : Int) (g0 : 0 ≤ p) (g1 : p ≤ 999900) : ∃ x y z p' q', Ev (fun k => spec_l01Draw.f k s p q) (x, y, z, p', q') ∧ numB x y z = true ∧ p ≤ p' ∧ p' ≤ p + 18 := by
  obtain ⟨v1, p1, q1, e1, c1, d1, b1, t1⟩ := pick_tells hs p q 9 g0 (by omega)
  obtain ⟨v2, p2, q2, e2, b2, t2⟩ := one_tells hs p1 q1 3 (by omega) (by omega)
  unfold spec_l01Draw.f
  cases v2 with
  | true =>
    obtain ⟨v3, p3, q3, e3, c3, d3, b3, t3⟩ := pick_tells hs p2 q2 9 (by omega) (by omega)
    obtain ⟨x, y, z, p5, q5, e5, hn, b5, t5⟩ := num_j0 hs p3 q3 (wrap64 (v1 - 4)) (wrap64 (v3 - 4)) 0 (by omega) (by omega) (by omega) (by omega)
    exact ⟨x, y, z, p5, q5, ev_bind e1 (ev_bind e2 (ev_pos rfl (ev_bind e3 e5))), hn, by omega, by omega⟩
  | false =>
    obtain ⟨x, y, z, p5, q5, e5, hn, b5, t5⟩ := num_j0 hs p2 q2 (wrap64 (v1 - 4)) 0 0 (by omega) (by omega) (by omega) (by omega)
    exact ⟨x, y, z, p5, q5, ev_bind e1 (ev_bind e2 (ev_neg (by simp) e5)), hn, by omega, by omega⟩
theorem draw_line (p q : Int) (g0 : 0 ≤ p) (g1 : p ≤ 999800) : ∃ d x y z p' q', Ev (fun k => spec_l02DrawLine.f k s p q) (d, x, y, z, p', q') ∧ lineB d x y z = true ∧ p ≤ p' ∧ p' ≤ p + 20 := by
  obtain ⟨v1, p1, q1, e1, c1, d1, b1, t1⟩ := pick_tells hs p q 8 g0 (by omega)
  obtain ⟨x, y, z, p5, q5, e5, hn, b5, t5⟩ := draw_num hs p1 q1 (by omega) (by omega)
  unfold spec_l02DrawLine.f
  refine ⟨v1, x, y, z, p5, q5, ev_bind e1 (ev_bind e5 (ev_some _)), ?_, by omega, by omega⟩
  have := d1 (by omega)
  unfold lineB inB
  rw [hn, Bool.and_true, Bool.and_eq_true, decide_eq_true_eq, decide_eq_true_eq]
  omega
theorem draw_name (p q : Int) (g0 : 0 ≤ p) (g1 : p ≤ 1000000) : ∃ v p' q', Ev (fun k => spec_l27Name.f k s p q) (v, p', q') ∧ (nameB v = true ∧ v.size ≤ 12) ∧ p ≤ p' ∧ p' ≤ p + 2 := by
  obtain ⟨v, p1, q1, e1, hv, b1, t1⟩ := text_tells hs p q ([(⟨#[97]⟩ : ByteArray), (⟨#[109, 105, 100]⟩ : ByteArray), (⟨#[108, 49]⟩ : ByteArray), (⟨#[120, 95, 50]⟩ : ByteArray), (⟨#[69, 100, 103, 101]⟩ : ByteArray)] : List ByteArray) (by simp) (by simp) g0 (by omega)
  unfold spec_l27Name.f
  refine ⟨v, p1, q1, ev_bind e1 (ev_some _), ?_, b1, t1⟩
  simp only [List.mem_cons, List.not_mem_nil, or_false] at hv
  rcases hv with rfl | rfl | rfl | rfl | rfl <;> exact ⟨by decide +kernel, by decide +kernel⟩
/-- What is drawn as a step. -/
abbrev Rs := Int × ByteArray × Int × Int × Int × Int × Int × Int × Bool × Int × Int
def mk (r : Rs) : S34 := ⟨r.1, r.2.1, ⟨r.2.2.1, ⟨r.2.2.2.1, r.2.2.2.2.1, r.2.2.2.2.2.1⟩⟩, r.2.2.2.2.2.2.1, r.2.2.2.2.2.2.2.1, r.2.2.2.2.2.2.2.2.1⟩
def place (r : Rs) : Int := r.2.2.2.2.2.2.2.2.2.1
def Good (p m : Int) (r : Rs) : Prop := okStep (mk r) = true ∧ (mk r).f1.size ≤ 12 ∧ p ≤ place r ∧ place r ≤ p + m
omit hs in
theorem side_ok (v : Int) (h0 : 0 ≤ v) (h1 : v < 2) : sideB (wrap64 (1 - wrap64 (2 * v))) = true := by
  rw [w64 (x := 2 * v) (by omega) (by omega), w64 (by omega) (by omega)]
  rcases (show v = 0 ∨ v = 1 by omega) with rfl | rfl <;> decide
theorem draw_j2 (p q k0 sd f : Int) (o : Bool) (hk : (k0 = 1 ∧ f = 0) ∨ (k0 = 2 ∧ 0 ≤ f ∧ f ≤ 23)) (hsd : sideB sd = true) (g0 : 0 ≤ p) (g1 : p ≤ 999700) :
    ∃ r, Ev (fun k => spec_l27Draw.j2 k s p q k0 (⟨#[]⟩ : ByteArray) 0 0 0 0 sd f o) r ∧ Good p 30 r := by
  obtain ⟨v, p1, q1, e1, b1, t1⟩ := one_tells hs p q 4 g0 (by omega)
  have unf : ∀ k, spec_l27Draw.j2 (k + 1) s p q k0 (⟨#[]⟩ : ByteArray) 0 0 0 0 sd f o = (spec_l00Src_one.f k s p q 4).bind fun bt438 => (if bt438.1 = true then ((spec_l27Name.f k s bt438.2.1 bt438.2.2).bind fun bt441 => (some (k0, bt441.1, 0, 0, 0, 0, sd, f, o, bt441.2.1, bt441.2.2))) else ((spec_l02DrawLine.f k s bt438.2.1 bt438.2.2).bind fun bt444 => (some (k0, (⟨#[]⟩ : ByteArray), bt444.1, bt444.2.1, bt444.2.2.1, bt444.2.2.2.1, sd, f, o, bt444.2.2.2.2.1, bt444.2.2.2.2.2)))) := fun k => by simp only [spec_l27Draw.j2]
  have fin : ∀ n d a b c, alongB n d a b c sd = true → stepB k0 n d a b c sd f o = true := fun n d a b c h => by
    unfold stepB
    rcases hk with ⟨rfl, rfl⟩ | ⟨rfl, hf0, hf1⟩
    · rw [if_pos rfl, h]; rfl
    · rw [if_neg (by omega), if_pos rfl, h, Bool.true_and]
      unfold inB
      rw [Bool.and_eq_true, decide_eq_true_eq, decide_eq_true_eq]
      exact ⟨hf0, hf1⟩
  cases v with
  | true =>
    obtain ⟨n, p2, q2, e2, ⟨hn, hz⟩, b2, t2⟩ := draw_name hs p1 q1 (by omega) (by omega)
    refine ⟨(k0, n, 0, 0, 0, 0, sd, f, o, p2, q2), (by refine ev_step ?_ unf; exact ev_bind e1 (ev_pos rfl (ev_bind e2 (ev_some _)))), fin n 0 0 0 0 ?_, hz, show p ≤ p2 by omega, show p2 ≤ p + 30 by omega⟩
    have he : ¬ emptyB n = true := fun h => by
      have := empty_name ((empty_iff n).mp h)
      rw [hn] at this
      cases this
    unfold alongB
    rw [hsd, if_neg he, hn]
    rfl
  | false =>
    obtain ⟨d, x, y, z, p2, q2, e2, hl, b2, t2⟩ := draw_line hs p1 q1 (by omega) (by omega)
    refine ⟨(k0, (⟨#[]⟩ : ByteArray), d, x, y, z, sd, f, o, p2, q2), (by refine ev_step ?_ unf; exact ev_bind e1 (ev_neg (by simp) (ev_bind e2 (ev_some _)))), fin _ d x y z ?_, show (⟨#[]⟩ : ByteArray).size ≤ 12 by decide, show p ≤ p2 by omega, show p2 ≤ p + 30 by omega⟩
    show alongB (⟨#[]⟩ : ByteArray) d x y z sd = true
    unfold alongB
    rw [hsd, if_pos empty_nil, hl]
    rfl
theorem draw_j0 (p q k0 : Int) (h1 : 1 ≤ k0) (h6 : k0 ≤ 6) (g0 : 0 ≤ p) (g1 : p ≤ 999600) : ∃ r, Ev (fun k => spec_l27Draw.j0 k s p q k0 (⟨#[]⟩ : ByteArray) 0 0 0 0 0 0 false) r ∧ Good p 40 r := by
  by_cases h4 : k0 = 4
  · subst h4
    obtain ⟨n, p1, q1, e1, ⟨hn, hz⟩, b1, t1⟩ := draw_name hs p q g0 (by omega)
    obtain ⟨d, x, y, z, p2, q2, e2, hl, b2, t2⟩ := draw_line hs p1 q1 (by omega) (by omega)
    refine ⟨(4, n, d, x, y, z, 0, 0, false, p2, q2), ev_step (f := fun k => (spec_l27Name.f k s p q).bind fun bt420 => ((spec_l02DrawLine.f k s bt420.2.1 bt420.2.2).bind fun bt423 => (some ((4 : Int), bt420.1, bt423.1, bt423.2.1, bt423.2.2.1, bt423.2.2.2.1, (0 : Int), (0 : Int), false, bt423.2.2.2.2.1, bt423.2.2.2.2.2)))) (ev_bind e1 (ev_bind e2 (ev_some _))) fun k => ?_, ?_, hz, show p ≤ p2 by omega, show p2 ≤ p + 40 by omega⟩
    · simp only [spec_l27Draw.j0]
      rw [if_pos trivial]
    · show stepB 4 n d x y z 0 0 false = true
      unfold stepB
      rw [if_neg (by omega), if_neg (by omega), if_pos rfl, hn, hl]
      rfl
  · have hj1 : ∃ r, Ev (fun k => spec_l27Draw.j1 k (k0 == 1 || k0 == 2) s p q k0 (⟨#[]⟩ : ByteArray) 0 0 0 0 0 0 false) r ∧ Good p 40 r := by
      by_cases hf : k0 = 1 ∨ k0 = 2
      · rw [show (k0 == 1 || k0 == 2) = true by simpa using hf]
        obtain ⟨v, p1, q1, e1, c1, d1, b1, t1⟩ := pick_tells hs p q 2 g0 (by omega)
        obtain ⟨o, p2, q2, e2, b2, t2⟩ := one_tells hs p1 q1 2 (by omega) (by omega)
        have hsd := side_ok v c1 (d1 (by omega))
        by_cases h2 : k0 = 2
        · obtain ⟨f, p3, q3, e3, c3, d3, b3, t3⟩ := pick_tells hs p2 q2 24 (by omega) (by omega)
          obtain ⟨r, e4, h5, h6', h7, h8⟩ := draw_j2 hs p3 q3 k0 (wrap64 (1 - wrap64 (2 * v))) f o (Or.inr ⟨h2, c3, by have := d3 (by omega); omega⟩) hsd (by omega) (by omega)
          refine ⟨r, ev_step (f := fun k => (spec_l00Src_pick.f k s p q 2).bind fun bt429 => ((spec_l00Src_one.f k s bt429.2.1 bt429.2.2 2).bind fun bt432 => (if k0 = 2 then ((spec_l00Src_pick.f k s bt432.2.1 bt432.2.2 24).bind fun bt435 => (spec_l27Draw.j2 k s bt435.2.1 bt435.2.2 k0 (⟨#[]⟩ : ByteArray) 0 0 0 0 (wrap64 (1 - (wrap64 (2 * bt429.1)))) bt435.1 bt432.1)) else (spec_l27Draw.j2 k s bt432.2.1 bt432.2.2 k0 (⟨#[]⟩ : ByteArray) 0 0 0 0 (wrap64 (1 - (wrap64 (2 * bt429.1)))) 0 bt432.1)))) (ev_bind e1 (ev_bind e2 (ev_pos h2 (ev_bind e3 e4)))) fun k => ?_, h5, h6', by omega, by omega⟩
          simp only [spec_l27Draw.j1]
          rw [if_pos trivial]
        · obtain ⟨r, e4, h5, h6', h7, h8⟩ := draw_j2 hs p2 q2 k0 (wrap64 (1 - wrap64 (2 * v))) 0 o (Or.inl ⟨hf.resolve_right h2, rfl⟩) hsd (by omega) (by omega)
          refine ⟨r, ev_step (f := fun k => (spec_l00Src_pick.f k s p q 2).bind fun bt429 => ((spec_l00Src_one.f k s bt429.2.1 bt429.2.2 2).bind fun bt432 => (if k0 = 2 then ((spec_l00Src_pick.f k s bt432.2.1 bt432.2.2 24).bind fun bt435 => (spec_l27Draw.j2 k s bt435.2.1 bt435.2.2 k0 (⟨#[]⟩ : ByteArray) 0 0 0 0 (wrap64 (1 - (wrap64 (2 * bt429.1)))) bt435.1 bt432.1)) else (spec_l27Draw.j2 k s bt432.2.1 bt432.2.2 k0 (⟨#[]⟩ : ByteArray) 0 0 0 0 (wrap64 (1 - (wrap64 (2 * bt429.1)))) 0 bt432.1)))) (ev_bind e1 (ev_bind e2 (ev_neg h2 e4))) fun k => ?_, h5, h6', by omega, by omega⟩
          simp only [spec_l27Draw.j1]
          rw [if_pos trivial]
      · rw [show (k0 == 1 || k0 == 2) = false by simpa using hf]
        refine ⟨(k0, (⟨#[]⟩ : ByteArray), 0, 0, 0, 0, 0, 0, false, p, q), ev_one fun k => ?_, ?_, show (⟨#[]⟩ : ByteArray).size ≤ 12 by decide, show p ≤ p by omega, show p ≤ p + 40 by omega⟩
        · simp only [spec_l27Draw.j1]
          rw [if_neg (by simp)]
        · show stepB k0 (⟨#[]⟩ : ByteArray) 0 0 0 0 0 0 false = true
          unfold stepB
          rw [if_neg (by omega), if_neg (by omega), if_neg h4, if_pos (by omega)]
          unfold plainB
          rw [empty_nil]
          rfl
    obtain ⟨r, e, hr⟩ := hj1
    refine ⟨r, ev_step e fun k => ?_, hr⟩
    simp only [spec_l27Draw.j0]
    rw [if_neg h4]
    by_cases h : k0 = 1
    · rw [if_pos h, show (k0 == 1) = true by simpa using h, Bool.true_or]
    · rw [if_neg h, show (k0 == 1) = false by simpa using h, Bool.false_or]
theorem draw_step (p q : Int) (g0 : 0 ≤ p) (g1 : p ≤ 999500) : ∃ r, Ev (fun k => spec_l27Draw.f k s p q) r ∧ Good p 50 r := by
  obtain ⟨v, p1, q1, e1, c1, d1, b1, t1⟩ := pick_tells hs p q 6 g0 (by omega)
  obtain ⟨o, p2, q2, e2, b2, t2⟩ := one_tells hs p1 q1 3 (by omega) (by omega)
  have hd := d1 (by omega)
  unfold spec_l27Draw.f
  cases o with
  | true =>
    obtain ⟨r, e3, h5, h6, h7, h8⟩ := draw_j0 hs p2 q2 1 (by omega) (by omega) (by omega) (by omega)
    exact ⟨r, ev_bind e1 (ev_bind e2 (ev_pos rfl e3)), h5, h6, by omega, by omega⟩
  | false =>
    have hw : wrap64 (1 + v) = 1 + v := w64 (by omega) (by omega)
    obtain ⟨r, e3, h5, h6, h7, h8⟩ := draw_j0 hs p2 q2 (1 + v) (by omega) (by omega) (by omega) (by omega)
    rw [← hw] at e3
    exact ⟨r, ev_bind e1 (ev_bind e2 (ev_neg (by simp) e3)), h5, h6, by omega, by omega⟩
theorem draw_loop (n : Nat) (hn : n ≤ 1000) : ∀ (x : List S34) (p q : Int), x.length + n ≤ 1000 → 0 ≤ p → p + 50 * n ≤ 999000 → ∃ l : List S34, Ev (fun k => spec_A2Program.l0 k x (n : Int) s p q) (x ++ l) ∧ l.length = n ∧ ∀ y ∈ l, okStep y = true ∧ y.f1.size ≤ 12 := by
  induction n with
  | zero =>
    intro x p q hx g0 g1
    refine ⟨[], ev_one fun k => ?_, rfl, by simp⟩
    simp only [spec_A2Program.l0]
    rw [if_neg (by omega), List.append_nil]
  | succ n ih =>
    intro x p q hx g0 g1
    obtain ⟨r, e1, h5, h6, h7, h8⟩ := draw_step hs p q g0 (by omega)
    obtain ⟨l, e2, hl, ho⟩ := ih (by omega) (x ++ [mk r]) (place r) r.2.2.2.2.2.2.2.2.2.2 (by simp; omega) (by omega) (by omega)
    refine ⟨mk r :: l, ?_, by simp [hl], ?_⟩
    · rw [List.append_assoc] at e2
      refine ev_step (f := fun k => (spec_l27Draw.f k s p q).bind fun bt460 => (if x.length < 1759218604441 then (spec_A2Program.l0 k (x ++ [mk bt460]) (n : Int) s (place bt460) bt460.2.2.2.2.2.2.2.2.2.2) else none)) (ev_bind e1 (ev_pos (by omega) e2)) fun k => ?_
      simp only [spec_A2Program.l0]
      rw [if_pos (by omega), show wrap64 (((n + 1 : Nat) : Int) - 1) = (n : Int) by rw [w64 (by omega) (by omega)]; omega]
      rfl
    · intro y hy
      rcases List.mem_cons.1 hy with rfl | hy
      · exact ⟨h5, h6⟩
      · exact ho y hy
theorem draw_prog : ∃ l : List S34, Ev (fun k => spec_A2Program.f k s) l ∧ l.length ≤ 11 ∧ ∀ y ∈ l, okStep y = true ∧ y.f1.size ≤ 12 := by
  obtain ⟨v, p1, q1, e1, c1, d1, b1, t1⟩ := pick_tells hs 0 0 12 (by omega) (by omega)
  have hd := d1 (by omega)
  obtain ⟨n, rfl⟩ : ∃ n : Nat, v = n := ⟨v.toNat, by omega⟩
  obtain ⟨l, e2, hl, ho⟩ := draw_loop hs n (by omega) [] p1 q1 (by simp; omega) (by omega) (by omega)
  unfold spec_A2Program.f
  exact ⟨l, ev_bind (ev_some _) (ev_bind e1 e2), by omega, ho⟩
end
end Go.Proofs.YteadienaeapaeaaDoor.ProgDrawW
