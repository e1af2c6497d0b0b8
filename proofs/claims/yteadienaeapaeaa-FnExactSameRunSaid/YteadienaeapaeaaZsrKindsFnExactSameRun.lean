/- The kinds of the arguments of FnExactSameRun, and the plain statement that is left. -/
import Derived.Test.YteadienaeapaeaaZsrPCx14
import Derived.Test.YteadienaeapaeaaZsrOpen
import Derived.KernelRfl
namespace Go.Proofs.Yteadienaeapaeaa.PC
open Go.ChangeShapes Go.WideShapes Go.ChangeAt Go.RowKit Go.Proofs.YteadienaeapaeaaW.PrintWords Go.Proofs.Yteadienaeapaeaa.Open Go.Proofs.Yteadienaeapaeaa.PC
set_option maxRecDepth 100000
def G163 (x : S163) : Prop := (Lit.int .i64 x.f0).wf = true ∧ (Lit.int .i64 x.f1).wf = true ∧ (Lit.int .i64 x.f2).wf = true
theorem opens_k163 {H : Type} {enc : TypeId × Value → H} {W : World} : Opens enc Try.prog W k163 163 G163 :=
  opens_struct Try.underlying163 (by kernel_rfl) (fun x => ⟨x.1, x.2.1, x.2.2⟩) (fun _ => rfl) (opensT_cons rfl (by kernel_rfl) (opens_int Try.underlying2) (opensT_cons rfl (by kernel_rfl) (opens_int Try.underlying2) (opensT_one rfl (by kernel_rfl) (opens_int Try.underlying2))))
def G244 (x : S244) : Prop := G163 x.f0 ∧ G163 x.f1
theorem opens_k244 {H : Type} {enc : TypeId × Value → H} {W : World} : Opens enc Try.prog W k244 244 G244 :=
  opens_struct Try.underlying244 (by kernel_rfl) (fun x => ⟨x.1, x.2⟩) (fun _ => rfl) (opensT_cons rfl (by kernel_rfl) opens_k163 (opensT_one rfl (by kernel_rfl) opens_k163))
def G239 (x : S239) : Prop := (Lit.int .i64 x.f0).wf = true ∧ True ∧ G163 x.f2 ∧ G163 x.f3
theorem opens_k239 {H : Type} {enc : TypeId × Value → H} {W : World} : Opens enc Try.prog W k239 239 G239 :=
  opens_struct Try.underlying239 (by kernel_rfl) (fun x => ⟨x.1, x.2.1, x.2.2.1, x.2.2.2⟩) (fun _ => rfl) (opensT_cons rfl (by kernel_rfl) (opens_int Try.underlying2) (opensT_cons rfl (by kernel_rfl) (opens_bool Try.underlying4) (opensT_cons rfl (by kernel_rfl) opens_k163 (opensT_one rfl (by kernel_rfl) opens_k163))))
def G241 (x : S241) : Prop := (x.f0.length ≤ maxLen ∧ ∀ y ∈ x.f0, G244 y) ∧ G239 x.f1
theorem opens_k241 {H : Type} {enc : TypeId × Value → H} {W : World} : Opens enc Try.prog W k241 241 G241 :=
  opens_struct Try.underlying241 (by kernel_rfl) (fun x => ⟨x.1, x.2⟩) (fun _ => rfl) (opensT_cons rfl (by kernel_rfl) (opens_slice Try.underlying158 (by kernel_rfl) opens_k244) (opensT_one rfl (by kernel_rfl) opens_k239))
def G161 (x : S161) : Prop := (x.f0.length ≤ maxLen ∧ ∀ y ∈ x.f0, G244 y) ∧ (x.f1.length ≤ maxLen ∧ ∀ y ∈ x.f1, G241 y) ∧ (x.f2.length ≤ maxLen ∧ ∀ y ∈ x.f2, (Lit.int .i64 y).wf = true)
theorem opens_k161 {H : Type} {enc : TypeId × Value → H} {W : World} : Opens enc Try.prog W k161 161 G161 :=
  opens_struct Try.underlying161 (by kernel_rfl) (fun x => ⟨x.1, x.2.1, x.2.2⟩) (fun _ => rfl) (opensT_cons rfl (by kernel_rfl) (opens_slice Try.underlying158 (by kernel_rfl) opens_k244) (opensT_cons rfl (by kernel_rfl) (opens_slice Try.underlying159 (by kernel_rfl) opens_k241) (opensT_one rfl (by kernel_rfl) (opens_slice Try.underlying24 (by kernel_rfl) (opens_int Try.underlying2)))))
def G165 (x : S165) : Prop := (Lit.int .i64 x.f0).wf = true ∧ G163 x.f1
theorem opens_k165 {H : Type} {enc : TypeId × Value → H} {W : World} : Opens enc Try.prog W k165 165 G165 :=
  opens_struct Try.underlying165 (by kernel_rfl) (fun x => ⟨x.1, x.2⟩) (fun _ => rfl) (opensT_cons rfl (by kernel_rfl) (opens_int Try.underlying2) (opensT_one rfl (by kernel_rfl) opens_k163))
def G167 (x : S167) : Prop := x.f0.size ≤ maxLen ∧ G165 x.f1
theorem opens_k167 {H : Type} {enc : TypeId × Value → H} {W : World} : Opens enc Try.prog W k167 167 G167 :=
  opens_struct Try.underlying167 (by kernel_rfl) (fun x => ⟨x.1, x.2⟩) (fun _ => rfl) (opensT_cons rfl (by kernel_rfl) (opens_string Try.underlying9) (opensT_one rfl (by kernel_rfl) opens_k165))
structure S37 where
  f0 : List (S161)
  f1 : List (S167)
def k37 : Kd S37 := Kd.iso (Kd.pair (Kd.slice 161 k161) (Kd.slice 167 k167)) (fun x : S37 => (x.f0, x.f1))
def G37 (x : S37) : Prop := (x.f0.length ≤ maxLen ∧ ∀ y ∈ x.f0, G161 y) ∧ (x.f1.length ≤ maxLen ∧ ∀ y ∈ x.f1, G167 y)
theorem opens_k37 {H : Type} {enc : TypeId × Value → H} {W : World} : Opens enc Try.prog W k37 37 G37 :=
  opens_struct Try.underlying37 (by kernel_rfl) (fun x => ⟨x.1, x.2⟩) (fun _ => rfl) (opensT_cons rfl (by kernel_rfl) (opens_slice Try.underlying34 (by kernel_rfl) opens_k161) (opensT_one rfl (by kernel_rfl) (opens_slice Try.underlying35 (by kernel_rfl) opens_k167)))
def FnExactSameRun.Stat : Prop := ∀ (a0 : S37) (a1 : S37), G37 a0 → G37 a1 → ∃ k, laws_FnExactSameRun.f k a0.f0 a0.f1 a1.f0 a1.f1 = some true
end Go.Proofs.Yteadienaeapaeaa.PC
