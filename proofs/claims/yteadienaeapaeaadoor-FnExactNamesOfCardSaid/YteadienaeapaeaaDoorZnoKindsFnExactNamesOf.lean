/- The kinds of the arguments of FnExactNamesOf, and the plain statement that is left. -/
import Derived.Test.YteadienaeapaeaaDoorZnoPYx14
import Derived.Test.YteadienaeapaeaaDoorZnoOpen
import Derived.KernelRfl
namespace Go.Proofs.YteadienaeapaeaaDoor.PY
open Go.ChangeShapes Go.WideShapes Go.ChangeAt Go.RowKit Go.Proofs.YteadienaeapaeaaDoorW.PrintWords Go.Proofs.YteadienaeapaeaaDoor.Open Go.Proofs.YteadienaeapaeaaDoor.PY
set_option maxRecDepth 100000
def G23 (x : S23) : Prop := (Lit.int .i64 x.f0).wf = true ∧ (Lit.int .i64 x.f1).wf = true ∧ (Lit.int .i64 x.f2).wf = true
theorem opens_k23 {H : Type} {enc : TypeId × Value → H} {W : World} : Opens enc Tryd.prog W k23 23 G23 :=
  opens_struct Tryd.underlying23 (by kernel_rfl) (fun x => ⟨x.1, x.2.1, x.2.2⟩) (fun _ => rfl) (opensT_cons rfl (by kernel_rfl) (opens_int Tryd.underlying2) (opensT_cons rfl (by kernel_rfl) (opens_int Tryd.underlying2) (opensT_one rfl (by kernel_rfl) (opens_int Tryd.underlying2))))
def G25 (x : S25) : Prop := (Lit.int .i64 x.f0).wf = true ∧ G23 x.f1
theorem opens_k25 {H : Type} {enc : TypeId × Value → H} {W : World} : Opens enc Tryd.prog W k25 25 G25 :=
  opens_struct Tryd.underlying25 (by kernel_rfl) (fun x => ⟨x.1, x.2⟩) (fun _ => rfl) (opensT_cons rfl (by kernel_rfl) (opens_int Tryd.underlying2) (opensT_one rfl (by kernel_rfl) opens_k23))
def G27 (x : S27) : Prop := (Lit.int .i64 x.f0).wf = true ∧ x.f1.size ≤ maxLen ∧ G25 x.f2 ∧ (Lit.int .i64 x.f3).wf = true ∧ (Lit.int .i64 x.f4).wf = true ∧ True
theorem opens_k27 {H : Type} {enc : TypeId × Value → H} {W : World} : Opens enc Tryd.prog W k27 27 G27 :=
  opens_struct Tryd.underlying27 (by kernel_rfl) (fun x => ⟨x.1, x.2.1, x.2.2.1, x.2.2.2.1, x.2.2.2.2.1, x.2.2.2.2.2⟩) (fun _ => rfl) (opensT_cons rfl (by kernel_rfl) (opens_int Tryd.underlying2) (opensT_cons rfl (by kernel_rfl) (opens_string Tryd.underlying9) (opensT_cons rfl (by kernel_rfl) opens_k25 (opensT_cons rfl (by kernel_rfl) (opens_int Tryd.underlying2) (opensT_cons rfl (by kernel_rfl) (opens_int Tryd.underlying2) (opensT_one rfl (by kernel_rfl) (opens_bool Tryd.underlying4)))))))
def FnExactNamesOf.Stat : Prop := ∀ (a0 : List (S27)), (a0.length ≤ maxLen ∧ ∀ y ∈ a0, G27 y) → ∃ k, laws_FnExactNamesOf.f k a0 = some true
end Go.Proofs.YteadienaeapaeaaDoor.PY
