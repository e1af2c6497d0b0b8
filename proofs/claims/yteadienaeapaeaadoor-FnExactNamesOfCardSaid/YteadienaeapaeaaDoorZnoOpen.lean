/- What the reading of an argument tells, for every kind of value that the statements take: numbers, bools, strings, slices and structs of these. -/
import Derived.Test.YteadienaeapaeaaDoorZnoW
import Derived.Deep.Slices
import Derived.ProofKit
import Derived.Carry
namespace Go.Proofs.YteadienaeapaeaaDoor.Open
open Go.ChangeShapes Go.WideShapes Go.RowKit Go.Deep Go.Proofs.YteadienaeapaeaaDoorW.PrintWords

def Opens {H α : Type} (enc : TypeId × Value → H) (P : Program) (W : World) (d : Kd α) (t : TypeId) (G : α → Prop) : Prop :=
  ∀ (fuel : Nat) (cs : List Value) (x : DataW H × List MemPlace), DataW.trod enc P W 0 (fun _ => true) true fuel t cs = some x → ∃ a, d.K W a cs ∧ G a
/-- The fields from one on: where they begin, and what they tell. -/
def OpensT {H α : Type} (enc : TypeId × Value → H) (P : Program) (W : World) (d : Kd α) (fs : List Field) (off : Nat) (G : α → Prop) : Prop :=
  ∀ (n : Nat) (cs : List Value) (xs : List (DataW H × List MemPlace)), xs.length = fs.length → (∀ (i : Nat) (f : Field), fs[i]? = some f → DataW.trod enc P W 0 (fun _ => true) true n f.type ((cs.drop f.offset).take (P.cellsOf f.type)) = xs[i]?) →
    cs.length = off + d.sz → ∃ a, d.K W a (cs.drop off) ∧ G a

section
variable {H : Type} {enc : TypeId × Value → H} {P : Program} {W : World}

theorem opens_int {t : TypeId} {k : IntKind} (ht : P.underlying t = some (.int k)) : Opens enc P W (Kd.int k) t (fun n => (Lit.int k n).wf = true) := by
  intro fuel cs x h
  obtain ⟨n, rfl, _, hw⟩ := DataW.trod_int ht h
  exact ⟨n, rfl, hw⟩
theorem opens_bool {t : TypeId} (ht : P.underlying t = some .bool) : Opens enc P W Kd.bool t (fun _ => True) := by
  intro fuel cs x h
  obtain ⟨n, rfl, _⟩ := DataW.trod_bool ht h
  exact ⟨n, rfl, trivial⟩
theorem opens_string {t : TypeId} (ht : P.underlying t = some .string) : Opens enc P W Kd.string t (fun s => s.size ≤ maxLen) := by
  intro fuel cs x h
  obtain ⟨n, rfl, _, hw⟩ := DataW.trod_string ht h
  exact ⟨n, rfl, hw⟩
theorem opens_slice {α : Type} {d : Kd α} {t e : TypeId} {G : α → Prop} (ht : P.underlying t = some (.slice e)) (hc : P.cellsOf e = d.sz) (hd : Opens enc P W d e G) :
    Opens enc P W (Kd.slice e d) t (fun l => l.length ≤ maxLen ∧ ∀ x ∈ l, G x) := by
  intro fuel cs x h
  rcases open_slice ht h with ⟨rfl, _⟩ | ⟨a, len, cap, m, n, D, Pl, rfl, hb, hl, hm, hmm, hx, hi⟩
  · exact ⟨[], ⟨none, 0, rfl, Nat.le_refl _, rfl, by simp, fun h => absurd h (by simp)⟩, by simp⟩
  · have hmc : m = cap := by simpa using hmm
    subst hmc
    have each : ∀ k, k ≤ len → ∃ l : List α, l.length = k ∧ (∀ j y, l[j]? = some y → ∃ c : List Value, c.length = d.sz ∧ d.K W y c ∧ ∀ i u, c[i]? = some u → W.cell? (a.add (j * d.sz + i)) = some u) ∧ ∀ x ∈ l, G x := by
      intro k
      induction k with
      | zero => exact fun _ => ⟨[], rfl, fun j y h => by simp at h, by simp⟩
      | succ k ih =>
        intro hk
        obtain ⟨l, hl1, hl2, hl3⟩ := ih (by omega)
        obtain ⟨cs', hcs, htr⟩ := hi k (by omega)
        obtain ⟨y, hK, hG⟩ := hd _ _ _ htr
        rw [hc] at hcs
        obtain ⟨_, hlen, hat⟩ := World.cells?_some hcs
        refine ⟨l ++ [y], by simp [hl1], fun j z hz => ?_, fun z hz => ?_⟩
        · rcases Nat.lt_or_ge j l.length with hj | hj
          · rw [List.getElem?_append_left hj] at hz
            exact hl2 j z hz
          · rw [List.getElem?_append_right hj] at hz
            have hj0 : j - l.length = 0 := by
              have := (List.getElem?_eq_some_iff.1 hz).1
              simp at this
              omega
            rw [hj0] at hz
            obtain rfl : y = z := by simpa using hz
            obtain rfl : j = k := by omega
            refine ⟨cs', hlen, hK, fun i u hu => ?_⟩
            have hi' : i < cs'.length := (List.getElem?_eq_some_iff.1 hu).1
            rw [← Go.Deep.add_add, hat i (by omega), hu]
        · rcases List.mem_append.1 hz with hz | hz
          · exact hl3 z hz
          · obtain rfl := List.mem_singleton.1 hz
            exact hG
    obtain ⟨l, hl1, hl2, hl3⟩ := each len (Nat.le_refl _)
    subst hl1
    unfold maxLen at hm
    refine ⟨l, ⟨some a, m, rfl, hl, rfl, by omega, fun _ => ⟨a, rfl, hl2⟩⟩, by unfold maxLen; omega, hl3⟩
theorem opensT_one {α : Type} {d : Kd α} {f : Field} {off : Nat} {G : α → Prop} (ho : f.offset = off) (hc : P.cellsOf f.type = d.sz) (h : Opens enc P W d f.type G) : OpensT enc P W d [f] off G := by
  intro n cs xs hl hf hlen
  have h0 := hf 0 f rfl
  match xs, hl with
  | [y], _ =>
    obtain ⟨a, hK, hG⟩ := h _ _ _ h0
    refine ⟨a, ?_, hG⟩
    rw [hc, ho, List.take_of_length_le (by rw [List.length_drop]; omega)] at hK
    exact hK
theorem opensT_cons {α β : Type} {a : Kd α} {b : Kd β} {f : Field} {fs : List Field} {off : Nat} {G : α → Prop} {G' : β → Prop} (ho : f.offset = off) (hc : P.cellsOf f.type = a.sz) (h : Opens enc P W a f.type G) (ht : OpensT enc P W b fs (off + a.sz) G') :
    OpensT enc P W (Kd.pair a b) (f :: fs) off (fun x => G x.1 ∧ G' x.2) := by
  intro n cs xs hl hf hlen
  match xs, hl with
  | y :: ys, hl =>
    obtain ⟨x, hK, hG⟩ := h _ _ _ (hf 0 f rfl)
    obtain ⟨z, hK', hG'⟩ := ht n cs ys (by simpa using hl) (fun i g hg => hf (i + 1) g (by simpa using hg)) (by rw [hlen]; simp [Kd.pair]; omega)
    refine ⟨(x, z), ⟨(cs.drop off).take a.sz, (cs.drop off).drop a.sz, by rw [List.take_append_drop], ?_, ?_⟩, hG, hG'⟩
    · rw [hc, ho] at hK
      exact hK
    · rw [List.drop_drop]
      exact hK'
theorem opens_struct {α β : Type} {d : Kd α} {t : TypeId} {fs : Array Field} {f : β → α} {G : α → Prop} (ht : P.underlying t = some (.struct fs)) (hc : P.cellsOf t = d.sz) (g : α → β) (hg : ∀ a, f (g a) = a)
    (h : OpensT enc P W d fs.toList 0 G) : Opens enc P W (Kd.iso d f) t (fun x => G (f x)) := by
  intro fuel cs x hx
  obtain ⟨xs, n, _, _, hlen, hxl, hf⟩ := DataW.trod_struct ht hx
  obtain ⟨a, hK, hG⟩ := h n cs xs (by simpa using hxl) (fun i q hq => hf i q (by simpa using hq)) (by omega)
  refine ⟨g a, ?_, ?_⟩
  · show d.K W (f (g a)) cs
    rw [hg]
    simpa using hK
  · show G (f (g a))
    rw [hg]
    exact hG
/-- An argument that is a slice. -/
theorem arg_slice {α : Type} {d : Kd α} {t e : TypeId} {G : List α → Prop} {base : Nat} {r : Reach} {v : Value} {D : DataW H} {p : List MemPlace} (ht : P.underlying t = some (.slice e)) (hv : Value.okWide P W r base t v)
    (h : DataW.Trod enc P W 0 (fun _ => true) true t v D p) (ho : Opens enc P W (Kd.slice e d) t G) : ∃ A c l, v = .slice A l.length c ∧ l.length ≤ c ∧ Kd.C d W A l.length l ∧ G l := by
  obtain ⟨a, len, cap, rfl⟩ := okWide_slice ht hv
  obtain ⟨fuel, hf⟩ := h
  obtain ⟨l, ⟨A, c, hcs, hl, hC⟩, hG⟩ := ho _ _ _ hf
  have e : (Value.slice a len cap) = .slice A l.length c := by simpa [Value.cells] using hcs
  exact ⟨A, c, l, e, hl, hC, hG⟩
end
end Go.Proofs.YteadienaeapaeaaDoor.Open
