/- The kinds of the arguments of FnExactCellCenter, and the plain statement that is left. -/
import Derived.Test.YtfmkbcmoibhffaaPAx2
import Derived.Test.YtfmkbcmoibhffaaOpen
import Derived.KernelRfl
namespace Go.Proofs.Ytfmkbcmoibhffaa.PA
open Go.ChangeShapes Go.WideShapes Go.ChangeAt Go.RowKit Go.Proofs.YtfmkbcmoibhffaaW.PrintWords Go.Proofs.Ytfmkbcmoibhffaa.Open Go.Proofs.Ytfmkbcmoibhffaa.PA
set_option maxRecDepth 100000
structure S24 where
  f0 : Int
  f1 : Int
  f2 : Int
  f3 : Int
  f4 : Int
def k24 : Kd S24 := Kd.iso (Kd.pair (Kd.int .i64) (Kd.pair (Kd.int .i64) (Kd.pair (Kd.int .i64) (Kd.pair (Kd.int .i64) (Kd.int .i64))))) (fun x : S24 => (x.f0, x.f1, x.f2, x.f3, x.f4))
def G24 (x : S24) : Prop := (Lit.int .i64 x.f0).wf = true ∧ (Lit.int .i64 x.f1).wf = true ∧ (Lit.int .i64 x.f2).wf = true ∧ (Lit.int .i64 x.f3).wf = true ∧ (Lit.int .i64 x.f4).wf = true
theorem opens_k24 {H : Type} {enc : TypeId × Value → H} {W : World} : Opens enc Try.prog W k24 24 G24 :=
  opens_struct Try.underlying24 (by kernel_rfl) (fun x => ⟨x.1, x.2.1, x.2.2.1, x.2.2.2.1, x.2.2.2.2⟩) (fun _ => rfl) (opensT_cons rfl (by kernel_rfl) (opens_int Try.underlying2) (opensT_cons rfl (by kernel_rfl) (opens_int Try.underlying2) (opensT_cons rfl (by kernel_rfl) (opens_int Try.underlying2) (opensT_cons rfl (by kernel_rfl) (opens_int Try.underlying2) (opensT_one rfl (by kernel_rfl) (opens_int Try.underlying2))))))
def FnExactCellCenter.Stat : Prop := ∀ (a0 : S24) (a1 : Int) (a2 : Int), G24 a0 → (Lit.int .i64 a1).wf = true → (Lit.int .i64 a2).wf = true → ∃ k, laws_FnExactCellCenter.f k a0.f0 a0.f1 a0.f2 a0.f3 a0.f4 a1 a2 = some true
end Go.Proofs.Ytfmkbcmoibhffaa.PA
