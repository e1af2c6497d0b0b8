/- Plain lemmas on numbers, lists and rounds, used by the plain statements. -/
import Derived.Test.YteadienaeapaeaaZssW
namespace Go.Proofs.Yteadienaeapaeaa.Base
open Go Go.RowKit Go.Proofs.YteadienaeapaeaaW.PrintWords Go.Proofs.YteadienaeapaeaaW.PrintLast Go.Proofs.YteadienaeapaeaaW.PrintMore
theorem w64 {x : Int} (h : -9223372036854775808 ≤ x) (h' : x ≤ 9223372036854775807) : wrap64 x = x := by unfold wrap64; omega
theorem w64s {i n : Nat} (h : i < n) (hn : n ≤ 9223372036854775807) : wrap64 ((i : Int) + 1) = ((i + 1 : Nat) : Int) := by rw [w64 (by omega) (by omega)]; omega
/-- One round, what it does and what follows given together. -/
theorem ev_step {α : Type} {g f : Nat → Option α} {r : α} (k : Ev f r) (h : ∀ k, g (k + 1) = f k) : Ev g r := Ev.step h k
theorem ev_some {α : Type} (r : α) : Ev (fun _ => some r) r := Ev.now r
theorem ev_one {α : Type} {g : Nat → Option α} {r : α} (h : ∀ k, g (k + 1) = some r) : Ev g r := Ev.step h (Ev.now r)
theorem ev_bind {α β : Type} {g : Nat → Option α} {f : Nat → α → Option β} {a : α} {r : β} (h : Ev g a) (k : Ev (fun n => f n a) r) : Ev (fun n => (g n).bind (f n)) r := Ev.bind h k
theorem ev_use {α β : Type} {o : Option α} {f : Nat → α → Option β} {a : α} {r : β} (h : o = some a) (k : Ev (fun n => f n a) r) : Ev (fun n => o.bind (f n)) r := by subst h; exact k
theorem ev_pos {α : Type} {p : Prop} [Decidable p] {f g : Nat → Option α} {r : α} (h : p) (k : Ev f r) : Ev (fun n => if p then f n else g n) r := by simp only [if_pos h]; exact k
theorem ev_neg {α : Type} {p : Prop} [Decidable p] {f g : Nat → Option α} {r : α} (h : ¬ p) (k : Ev g r) : Ev (fun n => if p then f n else g n) r := by simp only [if_neg h]; exact k
theorem set_at {α : Type} (l : List α) (i : Nat) (v z : α) (x : List α) (hi : i < l.length) (hx : x = l.take i ++ List.replicate (l.length - i) z) (hv : l[i] = v) : x.set i v = l.take (i + 1) ++ List.replicate (l.length - (i + 1)) z := by
  subst hx
  subst hv
  have h1 : (l.take i).length = i := by rw [List.length_take]; omega
  rw [List.set_append_right _ _ (by omega), h1, Nat.sub_self]
  have h2 : l.length - i = (l.length - (i + 1)) + 1 := by omega
  rw [h2, List.replicate_succ, List.set_cons_zero, List.take_succ_eq_append_getElem hi, List.append_assoc]
  rfl
theorem rd_at (l : List Int) (i : Nat) (hi : i < l.length) : rd l (i : Int) = l[i] := by
  unfold rd
  simp [List.getD_eq_getElem?_getD, List.getElem?_eq_getElem hi]
end Go.Proofs.Yteadienaeapaeaa.Base
