/- SameRun of the program returns what SameRun of the reference returns and leaves its arguments alone, for every two runs; runs that the statement passes over (more than 2^20 in all) are passed over here, too. -/
import Derived.Test.YteadienaeapaeaaZsrKindsFnExactSameRun
import Derived.Test.YteadienaeapaeaaZsrLoop
namespace Go.Proofs.Yteadienaeapaeaa.Pure
open Go Go.RowKit Go.Proofs.YteadienaeapaeaaW.PrintWords Go.Proofs.YteadienaeapaeaaW.PrintLast Go.Proofs.YteadienaeapaeaaW.PrintMore Go.Proofs.Yteadienaeapaeaa.Base Go.Proofs.Yteadienaeapaeaa.Loop Go.Proofs.Yteadienaeapaeaa.PC
def c163 (x : S163) : S94 := ⟨x.f0, x.f1, x.f2⟩
def c244 (x : S244) : S130 := ⟨c163 x.f0, c163 x.f1⟩
def c239 (x : S239) : S118 := ⟨x.f0, x.f1, c163 x.f2, c163 x.f3⟩
def c241 (x : S241) : S121 := ⟨x.f0.map c244, c239 x.f1⟩
def c161 (x : S161) : S65 := ⟨x.f0.map c244, x.f1.map c241, x.f2⟩
def c167 (x : S167) : S98 := ⟨x.f0, ⟨x.f1.f0, c163 x.f1.f1⟩⟩
/-- How long the parts may be. -/
def D241 (m : Nat) (x : S241) : Prop := x.f0.length ≤ m
def D161 (m : Nat) (x : S161) : Prop := x.f0.length ≤ m ∧ x.f1.length ≤ m ∧ (∀ y ∈ x.f1, D241 m y) ∧ x.f2.length ≤ m
def E121 (m : Nat) (x : S121) : Prop := x.f0.length ≤ m
def E65 (m : Nat) (x : S65) : Prop := x.f0.length ≤ m ∧ x.f1.length ≤ m ∧ (∀ y ∈ x.f1, E121 m y) ∧ x.f2.length ≤ m
abbrev M : Nat := 9223372036854775807
/-! ### sizes -/
theorem sz_points (l : List S244) (h : l.length ≤ M) : Sizes (fun _ a => laws_szPointS.f l a) (l.length ≤ 1048576) :=
  sizes_eq (sizes_list l.length h sizes_id) (fun _ _ => rfl) And.left
theorem sz_ints (l : List Int) (h : l.length ≤ M) : Sizes (fun _ a => laws_szInt64S.f l a) (l.length ≤ 1048576) :=
  sizes_eq (sizes_list l.length h sizes_id) (fun _ _ => rfl) And.left
theorem sz_faces (l : List S241) (h : l.length ≤ M) (hd : ∀ y ∈ l, D241 M y) : Sizes (fun k a => laws_szFaceS.f k l a) (l.length ≤ 1048576 ∧ ∀ y ∈ l, D241 1048576 y) := by
  refine sizes_eq (sizes_list l.length h (sizes_loop (fun k a i => laws_szFaceS.l0 k l a i) (fun _ i a => laws_szFace.f (rd_T241 l i).f0 (rd_T241 l i).f1.f0 (rd_T241 l i).f1.f1 (rd_T241 l i).f1.f2.f0 (rd_T241 l i).f1.f2.f1 (rd_T241 l i).f1.f2.f2 (rd_T241 l i).f1.f3.f0 (rd_T241 l i).f1.f3.f1 (rd_T241 l i).f1.f3.f2 a) l.length (fun i => D241 1048576 (rd_T241 l i)) ?_ ?_ ?_)) (fun _ _ => rfl) (fun x => ⟨x.1, all_of z241 l x.2⟩)
  · intro i hi
    have hm : D241 M (rd_T241 l i) := by
      rw [show rd_T241 l i = l[i] from rd_get z241 l i hi]
      exact hd _ (List.getElem_mem hi)
    exact sizes_eq (sizes_then (sz_points _ hm) sizes_id) (fun _ _ => rfl) And.left
  · intro k i a hi
    simp only [laws_szFaceS.l0]
    rw [if_pos (by omega), if_pos (by omega), w64s hi h]
  · intro k a
    simp only [laws_szFaceS.l0]
    rw [if_neg (by omega)]
theorem sz_states (l : List S161) (h : l.length ≤ M) (hd : ∀ y ∈ l, D161 M y) : Sizes (fun k a => laws_szStateS.f k l a) (l.length ≤ 1048576 ∧ ∀ y ∈ l, D161 1048576 y) := by
  refine sizes_eq (sizes_list l.length h (sizes_loop (fun k a i => laws_szStateS.l0 k l a i) (fun k i a => laws_szState.f k (rd_T161 l i).f0 (rd_T161 l i).f1 (rd_T161 l i).f2 a) l.length (fun i => D161 1048576 (rd_T161 l i)) ?_ ?_ ?_)) (fun _ _ => rfl) (fun x => ⟨x.1, all_of z161 l x.2⟩)
  · intro i hi
    have hm : D161 M (rd_T161 l i) := by
      rw [show rd_T161 l i = l[i] from rd_get z161 l i hi]
      exact hd _ (List.getElem_mem hi)
    obtain ⟨h0, h1, h2, h3⟩ := hm
    exact sizes_eq (sizes_then (sz_points _ h0) (sizes_then (sz_faces _ h1 h2) (sizes_then (sz_ints _ h3) sizes_id))) (fun _ _ => rfl) (fun x => ⟨x.1, x.2.1.1, x.2.1.2, x.2.2.1⟩)
  · intro k i a hi
    simp only [laws_szStateS.l0]
    rw [if_pos (by omega), if_pos (by omega), w64s hi h]
  · intro k a
    simp only [laws_szStateS.l0]
    rw [if_neg (by omega)]
theorem sz_marks (l : List S167) (h : l.length ≤ M) (hd : ∀ y ∈ l, y.f0.size ≤ M) : Sizes (fun k a => laws_szMarkS.f k l a) (l.length ≤ 1048576) := by
  refine sizes_eq (sizes_list l.length h (sizes_loop (fun k a i => laws_szMarkS.l0 k l a i) (fun _ i a => laws_szMark.f (rd_T167 l i).f0 (rd_T167 l i).f1.f0 (rd_T167 l i).f1.f1.f0 (rd_T167 l i).f1.f1.f1 (rd_T167 l i).f1.f1.f2 a) l.length (fun _ => True) ?_ ?_ ?_)) (fun _ _ => rfl) (fun x => x.1)
  · intro i hi
    have hm : (rd_T167 l i).f0.size ≤ M := by
      rw [show rd_T167 l i = l[i] from rd_get z167 l i hi]
      exact hd _ (List.getElem_mem hi)
    exact sizes_eq (sizes_list _ hm sizes_id) (fun _ _ => rfl) (fun _ => trivial)
  · intro k i a hi
    simp only [laws_szMarkS.l0]
    rw [if_pos (by omega), if_pos (by omega), w64s hi h]
  · intro k a
    simp only [laws_szMarkS.l0]
    rw [if_neg (by omega)]
theorem sz_run (l : List S161) (m : List S167) (h : l.length ≤ M) (hd : ∀ y ∈ l, D161 M y) (h2 : m.length ≤ M) (hd2 : ∀ y ∈ m, y.f0.size ≤ M) :
    Sizes (fun k a => laws_szRun.f k l m a) ((l.length ≤ 1048576 ∧ ∀ y ∈ l, D161 1048576 y) ∧ m.length ≤ 1048576) :=
  sizes_eq (sizes_then (sz_states l h hd) (sizes_then (sz_marks m h2 hd2) sizes_id)) (fun _ _ => rfl) (fun x => ⟨x.1, x.2.1⟩)
/-! ### copies -/
theorem to_points (l : List S244) (h : l.length ≤ 1048576) : Ev (fun k => laws_toPointS.f k l) (l.map c244) := by
  unfold laws_toPointS.f
  refine ev_pos (by omega) (ev_pos (by omega) (to_loop (fun k x i => laws_toPointS.l0 k l x i) (fun _ i => laws_toPoint.f (rd_T244 l i).f0.f0 (rd_T244 l i).f0.f1 (rd_T244 l i).f0.f2 (rd_T244 l i).f1.f0 (rd_T244 l i).f1.f1 (rd_T244 l i).f1.f2) (fun b => ⟨⟨b.1, b.2.1, b.2.2.1⟩, ⟨b.2.2.2.1, b.2.2.2.2.1, b.2.2.2.2.2⟩⟩) l c244 ?_ ?_ ?_ _ (by simp)))
  · intro i hi
    rw [show rd_T244 l i = l[i] from rd_get z244 l i hi]
    exact ⟨_, ev_some _, rfl⟩
  · intro k i x hi hx
    simp only [laws_toPointS.l0]
    rw [if_pos (by omega), if_pos (by omega), w64s hi (by omega)]
    refine congrArg _ (funext fun g => ?_)
    rw [if_pos (by omega)]
    rfl
  · intro k x
    simp only [laws_toPointS.l0]
    rw [if_neg (by omega)]
theorem to_ints (l : List Int) (h : l.length ≤ 1048576) : Ev (fun k => laws_toInt64S.f k l) l := by
  unfold laws_toInt64S.f
  have h2 := to_loop (fun k x i => laws_toInt64S.l0 k l x i) (fun _ i => some (rd l i)) id l id ?_ ?_ ?_ (List.replicate ((l.length : Int) : Int).toNat 0) (by simp)
  · rw [List.map_id] at h2
    exact ev_pos (by omega) (ev_pos (by omega) h2)
  · intro i hi
    exact ⟨_, ev_some _, rd_at l i hi⟩
  · intro k i x hi hx
    simp only [laws_toInt64S.l0]
    rw [if_pos (by omega), if_pos (by omega), if_pos (by omega), w64s hi (by omega)]
    rfl
  · intro k x
    simp only [laws_toInt64S.l0]
    rw [if_neg (by omega)]
theorem to_faces (l : List S241) (h : l.length ≤ 1048576) (hd : ∀ y ∈ l, D241 1048576 y) : Ev (fun k => laws_toFaceS.f k l) (l.map c241) := by
  unfold laws_toFaceS.f
  refine ev_pos (by omega) (ev_pos (by omega) (to_loop (fun k x i => laws_toFaceS.l0 k l x i) (fun k i => laws_toFace.f k (rd_T241 l i).f0 (rd_T241 l i).f1.f0 (rd_T241 l i).f1.f1 (rd_T241 l i).f1.f2.f0 (rd_T241 l i).f1.f2.f1 (rd_T241 l i).f1.f2.f2 (rd_T241 l i).f1.f3.f0 (rd_T241 l i).f1.f3.f1 (rd_T241 l i).f1.f3.f2)
    (fun b => ⟨b.1, ⟨b.2.1, b.2.2.1, ⟨b.2.2.2.1, b.2.2.2.2.1, b.2.2.2.2.2.1⟩, ⟨b.2.2.2.2.2.2.1, b.2.2.2.2.2.2.2.1, b.2.2.2.2.2.2.2.2⟩⟩⟩) l c241 ?_ ?_ ?_ _ (by simp)))
  · intro i hi
    rw [show rd_T241 l i = l[i] from rd_get z241 l i hi]
    exact ⟨_, ev_bind (to_points _ (hd _ (List.getElem_mem hi))) (ev_some _), rfl⟩
  · intro k i x hi hx
    simp only [laws_toFaceS.l0]
    rw [if_pos (by omega), if_pos (by omega), w64s hi (by omega)]
    refine congrArg _ (funext fun g => ?_)
    rw [if_pos (by omega)]
    rfl
  · intro k x
    simp only [laws_toFaceS.l0]
    rw [if_neg (by omega)]
theorem to_states (l : List S161) (h : l.length ≤ 1048576) (hd : ∀ y ∈ l, D161 1048576 y) : Ev (fun k => laws_toStateS.f k l) (l.map c161) := by
  unfold laws_toStateS.f
  refine ev_pos (by omega) (ev_pos (by omega) (to_loop (fun k x i => laws_toStateS.l0 k l x i) (fun k i => laws_toState.f k (rd_T161 l i).f0 (rd_T161 l i).f1 (rd_T161 l i).f2) (fun b => ⟨b.1, b.2.1, b.2.2⟩) l c161 ?_ ?_ ?_ _ (by simp)))
  · intro i hi
    rw [show rd_T161 l i = l[i] from rd_get z161 l i hi]
    obtain ⟨h0, h1, h2, h3⟩ := hd _ (List.getElem_mem hi)
    exact ⟨_, ev_bind (to_points _ h0) (ev_bind (to_faces _ h1 h2) (ev_bind (to_ints _ h3) (ev_some _))), rfl⟩
  · intro k i x hi hx
    simp only [laws_toStateS.l0]
    rw [if_pos (by omega), if_pos (by omega), w64s hi (by omega)]
    refine congrArg _ (funext fun g => ?_)
    rw [if_pos (by omega)]
    rfl
  · intro k x
    simp only [laws_toStateS.l0]
    rw [if_neg (by omega)]
theorem to_marks (l : List S167) (h : l.length ≤ 1048576) : Ev (fun k => laws_toMarkS.f k l) (l.map c167) := by
  unfold laws_toMarkS.f
  refine ev_pos (by omega) (ev_pos (by omega) (to_loop (fun k x i => laws_toMarkS.l0 k l x i) (fun _ i => laws_toMark.f (rd_T167 l i).f0 (rd_T167 l i).f1.f0 (rd_T167 l i).f1.f1.f0 (rd_T167 l i).f1.f1.f1 (rd_T167 l i).f1.f1.f2) (fun b => ⟨b.1, ⟨b.2.1, ⟨b.2.2.1, b.2.2.2.1, b.2.2.2.2⟩⟩⟩) l c167 ?_ ?_ ?_ _ (by simp)))
  · intro i hi
    rw [show rd_T167 l i = l[i] from rd_get z167 l i hi]
    exact ⟨_, ev_some _, rfl⟩
  · intro k i x hi hx
    simp only [laws_toMarkS.l0]
    rw [if_pos (by omega), if_pos (by omega), w64s hi (by omega)]
    refine congrArg _ (funext fun g => ?_)
    rw [if_pos (by omega)]
    rfl
  · intro k x
    simp only [laws_toMarkS.l0]
    rw [if_neg (by omega)]
theorem to_run (l : List S161) (m : List S167) (h : l.length ≤ 1048576 ∧ ∀ y ∈ l, D161 1048576 y) (h2 : m.length ≤ 1048576) : Ev (fun k => laws_toRun.f k l m) (l.map c161, m.map c167) := by
  unfold laws_toRun.f
  exact ev_bind (to_states l h.1 h.2) (ev_bind (to_marks m h2) (ev_some _))
theorem e_face {m : Nat} {x : S241} (h : D241 m x) : E121 m (c241 x) := by unfold E121 c241; rw [List.length_map]; exact h
theorem e_state {m : Nat} {x : S161} (h : D161 m x) : E65 m (c161 x) := by
  obtain ⟨h0, h1, h2, h3⟩ := h
  refine ⟨by simpa [c161] using h0, by simpa [c161] using h1, ?_, h3⟩
  intro y hy
  obtain ⟨z, hz, rfl⟩ := List.mem_map.1 hy
  exact e_face (h2 z hz)
/-! ### when two things are the same -/
theorem same94 (x y : S94) : x = y ↔ x.f0 = y.f0 ∧ x.f1 = y.f1 ∧ x.f2 = y.f2 := by cases x; cases y; simp
theorem same130 (x y : S130) : x = y ↔ x.f0 = y.f0 ∧ x.f1 = y.f1 := by cases x; cases y; simp
theorem same118 (x y : S118) : x = y ↔ x.f0 = y.f0 ∧ x.f1 = y.f1 ∧ x.f2 = y.f2 ∧ x.f3 = y.f3 := by cases x; cases y; simp
theorem same121 (x y : S121) : x = y ↔ x.f0 = y.f0 ∧ x.f1 = y.f1 := by cases x; cases y; simp
theorem same65 (x y : S65) : x = y ↔ x.f0 = y.f0 ∧ x.f1 = y.f1 ∧ x.f2 = y.f2 := by cases x; cases y; simp
theorem same96 (x y : S96) : x = y ↔ x.f0 = y.f0 ∧ x.f1 = y.f1 := by cases x; cases y; simp
theorem same98 (x y : S98) : x = y ↔ x.f0 = y.f0 ∧ x.f1 = y.f1 := by cases x; cases y; simp
theorem not_or_eq {a b : Bool} {p q : Prop} (h : (!a) = true ↔ p) (k : (!b) = true ↔ q) : (!(a || b)) = true ↔ p ∧ q := by
  rw [Bool.not_or, Bool.and_eq_true, h, k]
theorem not_int (x y : Int) : (!(!(x == y))) = true ↔ x = y := by simp
theorem not_bool (x y : Bool) : (!(!(x == y))) = true ↔ x = y := by simp
theorem not_bytes (x y : ByteArray) : (!(!(x.toList == y.toList))) = true ↔ x = y := by rw [Bool.not_not, beq_iff_eq, bytes_ext]
theorem num_cond (x y : S94) : (!((!(x.f0 == y.f0) || (!(x.f1 == y.f1) || (!(x.f2 == y.f2)))))) = true ↔ x = y :=
  (not_or_eq (not_int _ _) (not_or_eq (not_int _ _) (not_int _ _))).trans (same94 x y).symm
theorem point_cond (x y : S130) : (!((!(x.f0.f0 == y.f0.f0) || (!(x.f0.f1 == y.f0.f1) || (!(x.f0.f2 == y.f0.f2)))) || ((!(x.f1.f0 == y.f1.f0) || (!(x.f1.f1 == y.f1.f1) || (!(x.f1.f2 == y.f1.f2))))))) = true ↔ x = y :=
  (not_or_eq (num_cond _ _) (num_cond _ _)).trans (same130 x y).symm
theorem motion_cond (x y : S118) : (!(!(x.f0 == y.f0) || (!(x.f1 == y.f1) || ((!(x.f2.f0 == y.f2.f0) || (!(x.f2.f1 == y.f2.f1) || (!(x.f2.f2 == y.f2.f2)))) || ((!(x.f3.f0 == y.f3.f0) || (!(x.f3.f1 == y.f3.f1) || (!(x.f3.f2 == y.f3.f2))))))))) = true ↔ x = y :=
  (not_or_eq (not_int _ _) (not_or_eq (not_bool _ _) (not_or_eq (num_cond _ _) (num_cond _ _)))).trans (same118 x y).symm
theorem mark_cond (x y : S98) : (!(!(x.f0.toList == y.f0.toList) || ((!(x.f1.f0 == y.f1.f0) || ((!(x.f1.f1.f0 == y.f1.f1.f0) || (!(x.f1.f1.f1 == y.f1.f1.f1) || (!(x.f1.f1.f2 == y.f1.f1.f2))))))))) = true ↔ x = y :=
  (not_or_eq (not_bytes _ _) ((not_or_eq (not_int _ _) (num_cond _ _)).trans (same96 _ _).symm)).trans (same98 x y).symm
/-! ### the reference -/
theorem spec_points (a b : List S130) (h : a.length ≤ M) : Tells (fun k => spec_l03Same.f k a b) (a = b) := by
  refine tells_eq (tells_lists a b fun hl => tells_rounds (fun k i => spec_l03Same.l0 k a b i) a b hl (fun i hi p q => ?_) fun k => ?_) fun _ => rfl
  · refine tells_step (tells_not (point_cond a[i] b[i]) q) fun k => ?_
    simp only [spec_l03Same.l0]
    rw [if_pos (by omega), if_pos (by omega), if_pos (by omega), w64s hi h, show rd_T130 a i = a[i] from rd_get z130 a i hi, show rd_T130 b i = b[i] from rd_get z130 b i (by omega)]
  · simp only [spec_l03Same.l0]
    rw [if_neg (by omega)]
theorem spec_ints (a b : List Int) (h : a.length ≤ M) : Tells (fun k => spec_l00Same.f k a b) (a = b) := by
  refine tells_eq (tells_lists a b fun hl => tells_rounds (fun k i => spec_l00Same.l0 k a b i) a b hl (fun i hi p q => ?_) fun k => ?_) fun _ => rfl
  · refine tells_step (tells_if (c := a[i] = b[i]) (fun hc => q.iff ⟨fun x => ⟨hc, x⟩, And.right⟩) And.left) fun k => ?_
    simp only [spec_l00Same.l0]
    rw [if_pos (by omega), if_pos (by omega), if_pos (by omega), w64s hi h, rd_at a i hi, rd_at b i (by omega)]
  · simp only [spec_l00Same.l0]
    rw [if_neg (by omega)]
theorem spec_state (a b : S65) (h : E65 M a) : Tells (fun k => spec_SameState.f k a.f0 a.f1 a.f2 b.f0 b.f1 b.f2) (a = b) := by
  obtain ⟨h0, h1, h2, h3⟩ := h
  have bad : Ev (fun k => spec_SameState.j0 k true a.f0 a.f1 a.f2 b.f0 b.f1 b.f2) false := ev_one fun k => by
    simp only [spec_SameState.j0]
    rw [if_pos trivial]
  obtain ⟨t, e1, t1⟩ := spec_points a.f0 b.f0 h0
  unfold spec_SameState.f
  cases t with
  | false => exact tells_fail (ev_bind e1 (ev_neg (by simp) bad)) fun e => by have := t1.mpr (by rw [e]); cases this
  | true =>
    have p0 := t1.mp rfl
    by_cases hl : (a.f1.length : Int) = (b.f1.length : Int)
    · obtain ⟨u, e2, t2⟩ := spec_ints a.f2 b.f2 h3
      cases u with
      | false => exact tells_fail (ev_bind e1 (ev_pos rfl (ev_pos hl (ev_bind e2 bad)))) fun e => by have := t2.mpr (by rw [e]); cases this
      | true =>
        have p2 := t2.mp rfl
        have loop : Tells (fun k => spec_SameState.l0 k 0 a.f0 a.f1 a.f2 b.f0 b.f1 b.f2) (a.f1 = b.f1) := by
          refine tells_rounds (fun k i => spec_SameState.l0 k i a.f0 a.f1 a.f2 b.f0 b.f1 b.f2) a.f1 b.f1 (by omega) (fun i hi p q => ?_) fun k => ?_
          · have hm := h2 _ (List.getElem_mem hi)
            refine (tells_step (tells_or (spec_points a.f1[i].f0 b.f1[i].f0 hm) (tells_step (G := fun k => spec_SameState.j2 k (i : Int) (!(a.f1[i].f1.f0 == b.f1[i].f1.f0) || (!(a.f1[i].f1.f1 == b.f1[i].f1.f1) || ((!(a.f1[i].f1.f2.f0 == b.f1[i].f1.f2.f0) || (!(a.f1[i].f1.f2.f1 == b.f1[i].f1.f2.f1) || (!(a.f1[i].f1.f2.f2 == b.f1[i].f1.f2.f2)))) || ((!(a.f1[i].f1.f3.f0 == b.f1[i].f1.f3.f0) || (!(a.f1[i].f1.f3.f1 == b.f1[i].f1.f3.f1) || (!(a.f1[i].f1.f3.f2 == b.f1[i].f1.f3.f2)))))))) a.f0 a.f1 a.f2 b.f0 b.f1 b.f2) (tells_not (motion_cond a.f1[i].f1 b.f1[i].f1) q) fun k => ?_) (ev_one (g := fun k => spec_SameState.j2 k (i : Int) true a.f0 a.f1 a.f2 b.f0 b.f1 b.f2) fun k => ?_)) fun k => ?_).iff ?_
            · simp only [spec_SameState.j2]
              rw [w64s hi h1]
            · simp only [spec_SameState.j2]
              rw [if_pos trivial]
            · simp only [spec_SameState.l0]
              rw [if_pos (by omega), if_pos (by omega), if_pos (by omega), show rd_T121 a.f1 i = a.f1[i] from rd_get z121 a.f1 i hi, show rd_T121 b.f1 i = b.f1[i] from rd_get z121 b.f1 i (by omega)]
            · rw [same121, and_assoc]
          · simp only [spec_SameState.l0]
            rw [if_neg (by omega)]
        obtain ⟨v, e3, t3⟩ := loop
        refine ⟨v, ev_bind e1 (ev_pos rfl (ev_pos hl (ev_bind e2 (ev_step e3 fun k => ?_)))), t3.trans ?_⟩
        · simp only [spec_SameState.j0]
          rw [if_neg (by simp)]
        · rw [same65]
          exact ⟨fun e => ⟨p0, e, p2⟩, fun e => e.2.1⟩
    · exact tells_fail (ev_bind e1 (ev_pos rfl (ev_neg hl bad))) fun e => hl (by rw [e])
theorem spec_run (a b : List S65) (m n : List S98) (h : a.length ≤ M) (hd : ∀ y ∈ a, E65 M y) (h2 : m.length ≤ M) : Tells (fun k => spec_SameRun.f k a m b n) (a = b ∧ m = n) := by
  have bad : Ev (fun k => spec_SameRun.j0 k true a m b n) false := ev_one fun k => by
    simp only [spec_SameRun.j0]
    rw [if_pos trivial]
  unfold spec_SameRun.f
  by_cases hl : (a.length : Int) = (b.length : Int)
  · by_cases hm : (m.length : Int) = (n.length : Int)
    · have marks : Tells (fun k => spec_SameRun.l1 k 0 a m b n) (m = n) := by
        refine tells_rounds (fun k i => spec_SameRun.l1 k i a m b n) m n (by omega) (fun i hi p q => ?_) fun k => ?_
        · refine tells_step (tells_not (mark_cond m[i] n[i]) q) fun k => ?_
          simp only [spec_SameRun.l1]
          rw [if_pos (by omega), if_pos (by omega), if_pos (by omega), w64s hi h2, show rd_T98 m i = m[i] from rd_get z98 m i hi, show rd_T98 n i = n[i] from rd_get z98 n i (by omega)]
        · simp only [spec_SameRun.l1]
          rw [if_neg (by omega)]
      have both : ∀ d i : Nat, i + d = a.length → Tells (fun k => spec_SameRun.l0 k (i : Int) a m b n) (a.drop i = b.drop i ∧ m = n) := by
        intro d
        induction d with
        | zero =>
          intro i hd
          obtain rfl : i = a.length := by omega
          refine (tells_step marks fun k => ?_).iff ?_
          · simp only [spec_SameRun.l0]
            rw [if_neg (by omega)]
          · rw [List.drop_of_length_le (Nat.le_refl _), List.drop_of_length_le (by omega)]
            exact ⟨fun e => ⟨rfl, e⟩, And.right⟩
        | succ d ih =>
          intro i hi0
          have hi : i < a.length := by omega
          refine (tells_step (tells_and (spec_state a[i] (b[i]'(by omega)) (hd _ (List.getElem_mem hi))) (ih (i + 1) (by omega))) fun k => ?_).iff ?_
          · simp only [spec_SameRun.l0]
            rw [if_pos (by omega), if_pos (by omega), if_pos (by omega), w64s hi h, show rd_T65 a i = a[i] from rd_get z65 a i hi, show rd_T65 b i = b[i] from rd_get z65 b i (by omega)]
          · rw [List.drop_eq_getElem_cons hi, List.drop_eq_getElem_cons (show i < b.length by omega), List.cons.injEq, and_assoc]
      obtain ⟨t, e1, t1⟩ := both a.length 0 (by omega)
      rw [List.drop_zero, List.drop_zero] at t1
      refine ⟨t, ev_pos hl (ev_step e1 fun k => ?_), t1⟩
      simp only [spec_SameRun.j0]
      rw [show ((m.length : Int) != (n.length : Int)) = false by simpa using hm, if_neg (by simp)]
      rfl
    · refine tells_fail (ev_pos hl ?_) fun e => hm (by rw [e.2])
      rw [show ((m.length : Int) != (n.length : Int)) = true by simpa using hm]
      exact bad
  · exact tells_fail (ev_neg hl bad) fun e => hl (by rw [e.1])
/-! ### the program -/
theorem impl_points (a b : List S130) (h : a.length ≤ M) : Tells (fun k => impl_Point.f k a b) (a = b) := by
  refine tells_eq (tells_lists a b fun hl => tells_rounds (fun k i => impl_Point.l0 k a b (a.length : Int) i) a b hl (fun i hi p q => ?_) fun k => ?_) fun _ => rfl
  · refine tells_step (tells_not (point_cond a[i] b[i]) q) fun k => ?_
    simp only [impl_Point.l0]
    rw [if_pos (by omega), if_pos (by omega), if_pos (by omega), if_pos (by omega), w64s hi h, show rd_T130 a i = a[i] from rd_get z130 a i hi, show rd_T130 b i = b[i] from rd_get z130 b i (by omega)]
  · simp only [impl_Point.l0]
    rw [if_neg (by omega)]
theorem impl_ints (a b : List Int) (h : a.length ≤ M) : Tells (fun k => slices_Equal_int64_int64.f k a b) (a = b) := by
  refine tells_eq (tells_lists a b fun hl => tells_rounds (fun k i => slices_Equal_int64_int64.l0 k a b (a.length : Int) i) a b hl (fun i hi p q => ?_) fun k => ?_) fun _ => rfl
  · refine tells_step (tells_if (c := a[i] = b[i]) (fun hc => q.iff ⟨fun x => ⟨hc, x⟩, And.right⟩) And.left) fun k => ?_
    simp only [slices_Equal_int64_int64.l0]
    rw [if_pos (by omega), if_pos (by omega), if_pos (by omega), if_pos (by omega), w64s hi h, rd_at a i hi, rd_at b i (by omega)]
  · simp only [slices_Equal_int64_int64.l0]
    rw [if_neg (by omega)]
theorem impl_marks (a b : List S98) (h : a.length ≤ M) : Tells (fun k => impl_Mark.f k a b) (a = b) := by
  refine tells_eq (tells_lists a b fun hl => tells_rounds (fun k i => impl_Mark.l0 k a b (a.length : Int) i) a b hl (fun i hi p q => ?_) fun k => ?_) fun _ => rfl
  · refine tells_step (tells_not (mark_cond a[i] b[i]) q) fun k => ?_
    simp only [impl_Mark.l0]
    rw [if_pos (by omega), if_pos (by omega), if_pos (by omega), if_pos (by omega), w64s hi h, show rd_T98 a i = a[i] from rd_get z98 a i hi, show rd_T98 b i = b[i] from rd_get z98 b i (by omega)]
  · simp only [impl_Mark.l0]
    rw [if_neg (by omega)]
theorem motion_and (x y : S118) : (x.f0 == y.f0 && (x.f1 == y.f1 && ((x.f2.f0 == y.f2.f0 && (x.f2.f1 == y.f2.f1 && (x.f2.f2 == y.f2.f2))) && ((x.f3.f0 == y.f3.f0 && (x.f3.f1 == y.f3.f1 && (x.f3.f2 == y.f3.f2))))))) = true ↔ x = y := by
  rw [same118, same94, same94]
  simp only [Bool.and_eq_true, beq_iff_eq]
theorem impl_face (a b : S121) (h : E121 M a) : Tells (fun k => impl_SameState_1.f k a.f0 a.f1.f0 a.f1.f1 a.f1.f2.f0 a.f1.f2.f1 a.f1.f2.f2 a.f1.f3.f0 a.f1.f3.f1 a.f1.f3.f2 b.f0 b.f1.f0 b.f1.f1 b.f1.f2.f0 b.f1.f2.f1 b.f1.f2.f2 b.f1.f3.f0 b.f1.f3.f1 b.f1.f3.f2) (a = b) := by
  refine tells_eq (tells_if (fun hc => (tells_ret (impl_points a.f0 b.f0 h)).iff ?_) fun e => (motion_and a.f1 b.f1).mpr (by rw [e])) fun _ => rfl
  rw [same121]
  exact ⟨fun e => ⟨e, (motion_and a.f1 b.f1).mp hc⟩, And.left⟩
theorem impl_faces (a b : List S121) (h : a.length ≤ M) (hd : ∀ y ∈ a, E121 M y) : Tells (fun k => impl_Face_impl_SameState_1.f k a b) (a = b) := by
  refine tells_eq (tells_lists a b fun hl => tells_rounds (fun k i => impl_Face_impl_SameState_1.l0 k b a (a.length : Int) i) a b hl (fun i hi p q => ?_) fun k => ?_) fun _ => rfl
  · refine tells_step (tells_and (impl_face a[i] b[i] (hd _ (List.getElem_mem hi))) q) fun k => ?_
    simp only [impl_Face_impl_SameState_1.l0]
    rw [if_pos (by omega), if_pos (by omega), if_pos (by omega), if_pos (by omega), w64s hi h, show rd_T121 a i = a[i] from rd_get z121 a i hi, show rd_T121 b i = b[i] from rd_get z121 b i (by omega)]
  · simp only [impl_Face_impl_SameState_1.l0]
    rw [if_neg (by omega)]
theorem impl_state (a b : S65) (h : E65 M a) : Tells (fun k => impl_SameState.f k a.f0 a.f1 a.f2 b.f0 b.f1 b.f2) (a = b) := by
  obtain ⟨h0, h1, h2, h3⟩ := h
  refine (tells_eq (tells_and (impl_points a.f0 b.f0 h0) (tells_and (impl_ints a.f2 b.f2 h3) (tells_ret (impl_faces a.f1 b.f1 h1 h2)))) fun _ => rfl).iff ?_
  rw [same65]
  exact ⟨fun e => ⟨e.1, e.2.2, e.2.1⟩, fun e => ⟨e.1, e.2.2, e.2.1⟩⟩
theorem impl_states (a b : List S65) (h : a.length ≤ M) (hd : ∀ y ∈ a, E65 M y) : Tells (fun k => impl_State_impl_SameState.f k a b) (a = b) := by
  refine tells_eq (tells_lists a b fun hl => tells_rounds (fun k i => impl_State_impl_SameState.l0 k b a (a.length : Int) i) a b hl (fun i hi p q => ?_) fun k => ?_) fun _ => rfl
  · refine tells_step (tells_and (impl_state a[i] b[i] (hd _ (List.getElem_mem hi))) q) fun k => ?_
    simp only [impl_State_impl_SameState.l0]
    rw [if_pos (by omega), if_pos (by omega), if_pos (by omega), if_pos (by omega), w64s hi h, show rd_T65 a i = a[i] from rd_get z65 a i hi, show rd_T65 b i = b[i] from rd_get z65 b i (by omega)]
  · simp only [impl_State_impl_SameState.l0]
    rw [if_neg (by omega)]
theorem impl_run (a b : List S65) (m n : List S98) (h : a.length ≤ M) (hd : ∀ y ∈ a, E65 M y) (h2 : m.length ≤ M) : Tells (fun k => impl_SameRun.f k a m b n) (a = b ∧ m = n) :=
  tells_eq (tells_and (impl_states a b h hd) (tells_ret (impl_marks m n h2))) fun _ => rfl
/-! ### the statements' own comparison, of a thing with itself -/
theorem eq_num (x y : S94) : Tells (fun _ => laws_eqNum.f x.f0 x.f1 x.f2 y.f0 y.f1 y.f2) (x = y) := by
  unfold laws_eqNum.f
  rw [same94]
  refine tells_if (fun h0 => tells_if (fun h1 => tells_if (fun h2 => tells_now (b := true) ?_) ?_) ?_) And.left
  · simp [h0, h1, h2]
  · exact fun e => e.2.2
  · exact fun e => e.2.1
theorem eq_point (x y : S130) : Tells (fun _ => laws_eqPoint.f x.f0.f0 x.f0.f1 x.f0.f2 x.f1.f0 x.f1.f1 x.f1.f2 y.f0.f0 y.f0.f1 y.f0.f2 y.f1.f0 y.f1.f1 y.f1.f2) (x = y) := by
  refine (tells_eq (tells_and (eq_num x.f0 y.f0) (tells_and (eq_num x.f1 y.f1) (tells_now (b := true) (p := True) (by simp)))) fun _ => rfl).iff ?_
  rw [same130, and_true]
theorem eq_points (a b : List S130) (h : a.length ≤ M) : Tells (fun k => laws_eqPointS.f k a b) (a = b) := by
  refine tells_eq (tells_lists a b fun hl => tells_rounds (fun k i => laws_eqPointS.l0 k a b i) a b hl (fun i hi p q => ?_) fun k => ?_) fun _ => rfl
  · refine tells_step (tells_and (eq_point a[i] b[i]) q) fun k => ?_
    simp only [laws_eqPointS.l0]
    rw [if_pos (by omega), if_pos (by omega), if_pos (by omega), w64s hi h, show rd_T130 a i = a[i] from rd_get z130 a i hi, show rd_T130 b i = b[i] from rd_get z130 b i (by omega)]
  · simp only [laws_eqPointS.l0]
    rw [if_neg (by omega)]
theorem eq_ints (a b : List Int) (h : a.length ≤ M) : Tells (fun k => laws_eqInt64S.f k a b) (a = b) := by
  refine tells_eq (tells_lists a b fun hl => tells_rounds (fun k i => laws_eqInt64S.l0 k a b i) a b hl (fun i hi p q => ?_) fun k => ?_) fun _ => rfl
  · refine tells_step (tells_if (c := a[i] = b[i]) (fun hc => q.iff ⟨fun x => ⟨hc, x⟩, And.right⟩) And.left) fun k => ?_
    simp only [laws_eqInt64S.l0]
    rw [if_pos (by omega), if_pos (by omega), if_pos (by omega), w64s hi h, rd_at a i hi, rd_at b i (by omega)]
  · simp only [laws_eqInt64S.l0]
    rw [if_neg (by omega)]
theorem eq_motion (x y : S118) : Tells (fun _ => laws_eqMotion.f x.f0 x.f1 x.f2.f0 x.f2.f1 x.f2.f2 x.f3.f0 x.f3.f1 x.f3.f2 y.f0 y.f1 y.f2.f0 y.f2.f1 y.f2.f2 y.f3.f0 y.f3.f1 y.f3.f2) (x = y) := by
  unfold laws_eqMotion.f
  rw [same118]
  refine tells_if (fun h0 => ?_) And.left
  refine (tells_not (c := x.f1 != y.f1) (p := x.f1 = y.f1) (by simp) (tells_and (eq_num x.f2 y.f2) (tells_and (eq_num x.f3 y.f3) (tells_now (b := true) (p := True) (by simp))))).iff ?_
  rw [and_true]
  exact ⟨fun e => ⟨h0, e⟩, And.right⟩
theorem eq_face (a b : S121) (h : E121 M a) : Tells (fun k => laws_eqFace.f k a.f0 a.f1.f0 a.f1.f1 a.f1.f2.f0 a.f1.f2.f1 a.f1.f2.f2 a.f1.f3.f0 a.f1.f3.f1 a.f1.f3.f2 b.f0 b.f1.f0 b.f1.f1 b.f1.f2.f0 b.f1.f2.f1 b.f1.f2.f2 b.f1.f3.f0 b.f1.f3.f1 b.f1.f3.f2) (a = b) := by
  refine (tells_eq (tells_and (eq_points a.f0 b.f0 h) (tells_and (eq_motion a.f1 b.f1) (tells_now (b := true) (p := True) (by simp)))) fun _ => rfl).iff ?_
  rw [same121, and_true]
theorem eq_faces (a b : List S121) (h : a.length ≤ M) (hd : ∀ y ∈ a, E121 M y) : Tells (fun k => laws_eqFaceS.f k a b) (a = b) := by
  refine tells_eq (tells_lists a b fun hl => tells_rounds (fun k i => laws_eqFaceS.l0 k a b i) a b hl (fun i hi p q => ?_) fun k => ?_) fun _ => rfl
  · refine tells_step (tells_and (eq_face a[i] b[i] (hd _ (List.getElem_mem hi))) q) fun k => ?_
    simp only [laws_eqFaceS.l0]
    rw [if_pos (by omega), if_pos (by omega), if_pos (by omega), w64s hi h, show rd_T121 a i = a[i] from rd_get z121 a i hi, show rd_T121 b i = b[i] from rd_get z121 b i (by omega)]
  · simp only [laws_eqFaceS.l0]
    rw [if_neg (by omega)]
theorem eq_state (a b : S65) (h : E65 M a) : Tells (fun k => laws_eqState.f k a.f0 a.f1 a.f2 b.f0 b.f1 b.f2) (a = b) := by
  obtain ⟨h0, h1, h2, h3⟩ := h
  refine (tells_eq (tells_and (eq_points a.f0 b.f0 h0) (tells_and (eq_faces a.f1 b.f1 h1 h2) (tells_and (eq_ints a.f2 b.f2 h3) (tells_now (b := true) (p := True) (by simp))))) fun _ => rfl).iff ?_
  rw [same65, and_true]
theorem eq_states (a b : List S65) (h : a.length ≤ M) (hd : ∀ y ∈ a, E65 M y) : Tells (fun k => laws_eqStateS.f k a b) (a = b) := by
  refine tells_eq (tells_lists a b fun hl => tells_rounds (fun k i => laws_eqStateS.l0 k a b i) a b hl (fun i hi p q => ?_) fun k => ?_) fun _ => rfl
  · refine tells_step (tells_and (eq_state a[i] b[i] (hd _ (List.getElem_mem hi))) q) fun k => ?_
    simp only [laws_eqStateS.l0]
    rw [if_pos (by omega), if_pos (by omega), if_pos (by omega), w64s hi h, show rd_T65 a i = a[i] from rd_get z65 a i hi, show rd_T65 b i = b[i] from rd_get z65 b i (by omega)]
  · simp only [laws_eqStateS.l0]
    rw [if_neg (by omega)]
theorem eq_mark (x y : S98) : Tells (fun _ => laws_eqMark.f x.f0 x.f1.f0 x.f1.f1.f0 x.f1.f1.f1 x.f1.f1.f2 y.f0 y.f1.f0 y.f1.f1.f0 y.f1.f1.f1 y.f1.f1.f2) (x = y) := by
  unfold laws_eqMark.f
  refine tells_if (fun h0 => ?_) fun e => by rw [e]
  refine (tells_and (tells_eq (tells_if (c := x.f1.f0 = y.f1.f0) (p := x.f1 = y.f1) (fun h1 => (tells_and (eq_num x.f1.f1 y.f1.f1) (tells_now (b := true) (p := True) (by simp))).iff ?_) fun e => by rw [e]) fun _ => rfl) (tells_now (b := true) (p := True) (by simp))).iff ?_
  · rw [same96, and_true]
    exact ⟨fun e => ⟨h1, e⟩, And.right⟩
  · rw [same98, and_true]
    exact ⟨fun e => ⟨bytes_ext.mp h0, e⟩, And.right⟩
theorem eq_marks (a b : List S98) (h : a.length ≤ M) : Tells (fun k => laws_eqMarkS.f k a b) (a = b) := by
  refine tells_eq (tells_lists a b fun hl => tells_rounds (fun k i => laws_eqMarkS.l0 k a b i) a b hl (fun i hi p q => ?_) fun k => ?_) fun _ => rfl
  · refine tells_step (tells_and (eq_mark a[i] b[i]) q) fun k => ?_
    simp only [laws_eqMarkS.l0]
    rw [if_pos (by omega), if_pos (by omega), if_pos (by omega), w64s hi h, show rd_T98 a i = a[i] from rd_get z98 a i hi, show rd_T98 b i = b[i] from rd_get z98 b i (by omega)]
  · simp only [laws_eqMarkS.l0]
    rw [if_neg (by omega)]
theorem eq_run (a b : List S65) (m n : List S98) (h : a.length ≤ M) (hd : ∀ y ∈ a, E65 M y) (h2 : m.length ≤ M) : Tells (fun k => laws_eqRun.f k a m b n) (a = b ∧ m = n) := by
  refine (tells_eq (tells_and (eq_states a b h hd) (tells_and (eq_marks m n h2) (tells_now (b := true) (p := True) (by simp)))) fun _ => rfl).iff ?_
  rw [and_true]
/-! ### the law -/
theorem of_G161 {x : S161} (g : G161 x) : D161 M x := by
  obtain ⟨⟨h0, _⟩, ⟨h1, g1⟩, h2, _⟩ := g
  unfold maxLen at h0 h1 h2
  exact ⟨h0, h1, fun y hy => by have := (g1 y hy).1.1; unfold maxLen at this; exact this, h2⟩
theorem wide {x : S65} (h : E65 1048576 x) : E65 M x := by
  obtain ⟨h0, h1, h2, h3⟩ := h
  exact ⟨Nat.le_trans h0 (by decide), Nat.le_trans h1 (by decide), fun y hy => Nat.le_trans (h2 y hy) (by decide), Nat.le_trans h3 (by decide)⟩
theorem FnExactSameRun : FnExactSameRun.Stat := by
  intro x y gx gy
  obtain ⟨⟨hx0, hx1⟩, hx2, hx3⟩ := gx
  obtain ⟨⟨hy0, hy1⟩, hy2, hy3⟩ := gy
  unfold maxLen at hx0 hx2 hy0 hy2
  have sx := sz_run x.f0 x.f1 hx0 (fun z hz => of_G161 (hx1 z hz)) hx2 (fun z hz => by have := (hx3 z hz).1; unfold maxLen at this; exact this)
  have sy := sz_run y.f0 y.f1 hy0 (fun z hz => of_G161 (hy1 z hz)) hy2 (fun z hz => by have := (hy3 z hz).1; unfold maxLen at this; exact this)
  refine Ev.rounds (g := fun k => laws_FnExactSameRun.f k x.f0 x.f1 y.f0 y.f1) (r := true) ?_
  unfold laws_FnExactSameRun.f
  obtain ⟨r1, e1, q1⟩ := sx 1048576 (by omega) (by omega)
  refine ev_bind e1 ?_
  by_cases h1 : r1 < 0
  · exact ev_pos h1 (ev_some _)
  refine ev_neg h1 ?_
  obtain ⟨hle, bx, mx⟩ := q1 h1
  obtain ⟨r2, e2, q2⟩ := sy r1 (by omega) (by omega)
  refine ev_bind e2 ?_
  by_cases h2 : r2 < 0
  · exact ev_pos h2 (ev_some _)
  refine ev_neg h2 ?_
  obtain ⟨_, byy, my⟩ := q2 h2
  have tx := to_run x.f0 x.f1 bx mx
  have ty := to_run y.f0 y.f1 byy my
  have ex : ∀ z ∈ x.f0.map c161, E65 M z := fun z hz => by
    obtain ⟨u, hu, rfl⟩ := List.mem_map.1 hz
    exact wide (e_state (bx.2 u hu))
  have ey : ∀ z ∈ y.f0.map c161, E65 M z := fun z hz => by
    obtain ⟨u, hu, rfl⟩ := List.mem_map.1 hz
    exact wide (e_state (byy.2 u hu))
  have lx : (x.f0.map c161).length ≤ M := by rw [List.length_map]; exact Nat.le_trans bx.1 (by decide)
  have ly : (y.f0.map c161).length ≤ M := by rw [List.length_map]; exact Nat.le_trans byy.1 (by decide)
  have nx : (x.f1.map c167).length ≤ M := by rw [List.length_map]; exact Nat.le_trans mx (by decide)
  have ny : (y.f1.map c167).length ≤ M := by rw [List.length_map]; exact Nat.le_trans my (by decide)
  obtain ⟨t, c1, c2⟩ := (spec_run (x.f0.map c161) (y.f0.map c161) (x.f1.map c167) (y.f1.map c167) lx ex nx).same (impl_run (x.f0.map c161) (y.f0.map c161) (x.f1.map c167) (y.f1.map c167) lx ex nx)
  have selfx := (eq_run (x.f0.map c161) (x.f0.map c161) (x.f1.map c167) (x.f1.map c167) lx ex nx).yes ⟨rfl, rfl⟩
  have selfy := (eq_run (y.f0.map c161) (y.f0.map c161) (y.f1.map c167) (y.f1.map c167) ly ey ny).yes ⟨rfl, rfl⟩
  exact ev_bind tx (ev_bind ty (ev_bind c1 (ev_bind tx (ev_bind ty (ev_bind c2 (ev_neg (by simp) (ev_bind tx (ev_bind selfx (ev_pos rfl (ev_bind ty (ev_bind selfy (ev_pos rfl (ev_some _)))))))))))))
end Go.Proofs.Yteadienaeapaeaa.Pure
