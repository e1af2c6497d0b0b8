/- The statement FnExactStartRun, as its card says, holds of the given program: no conditions. Part 4. -/
import Derived.Test.YteadienaeapaeaaDoorV3
set_option linter.unusedSectionVars false
set_option linter.unusedVariables false
set_option linter.unusedSimpArgs false
section
namespace Go.Vk.St
open Go Go.Proofs Go.Vk
set_option linter.unusedVariables false
set_option maxRecDepth 100000
theorem l104_33 (v1 : Int) (v5 : Int) (o23552 : Sl U3) : atK prog Ms Ls Gs tb Y.om.lab 104 (stk prog 104 33) (σ104_33 v1 v5 o23552.n (fun k0 => tS3.cells (o23552.get k0))) =
  (if 0 ≤ v5 then (if v5 < ((o23552.n : Nat) : Int) then (if (0 + (v5).toNat) < o23552.n then L104_37 (IntKind.i64.wrap (v1 + (1 : Int))) v5 (Sl.set tS3 o23552 (0 + (v5).toNat) ((o23552.get (0 + (v5).toNat)).1, ((o23552.get (0 + (v5).toNat)).2.1, (o23552.get (0 + (v5).toNat)).2.2.1, (o23552.get (0 + (v5).toNat)).2.2.2.1, ((o23552.get (0 + (v5).toNat)).2.2.2.2.1, (IntKind.i64.wrap (v1 + (1 : Int))), (o23552.get (0 + (v5).toNat)).2.2.2.2.2.2)))) else none) else none) else none) := by kernel_rfl
theorem l104_37 (v1 : Int) (v5 : Int) (o23552 : Sl U3) : atK prog Ms Ls Gs tb Y.om.lab 104 (stk prog 104 37) (σ104_37 v1 v5 o23552.n (fun k0 => tS3.cells (o23552.get k0))) =
  (if 0 ≤ v5 then (if v5 < ((o23552.n : Nat) : Int) then (if (0 + (v5).toNat) < o23552.n then L104_41 (IntKind.i64.wrap (v1 + (1 : Int))) v5 (Sl.set tS3 o23552 (0 + (v5).toNat) ((o23552.get (0 + (v5).toNat)).1, ((o23552.get (0 + (v5).toNat)).2.1, (o23552.get (0 + (v5).toNat)).2.2.1, (o23552.get (0 + (v5).toNat)).2.2.2.1, ((o23552.get (0 + (v5).toNat)).2.2.2.2.1, (o23552.get (0 + (v5).toNat)).2.2.2.2.2.1, (IntKind.i64.wrap (v1 + (1 : Int))))))) else none) else none) else none) := by kernel_rfl
theorem l104_41 (v1 : Int) (v5 : Int) (o23552 : Sl U3) : atK prog Ms Ls Gs tb Y.om.lab 104 (stk prog 104 41) (σ104_41 v1 v5 o23552.n (fun k0 => tS3.cells (o23552.get k0))) =
  L104_4 (IntKind.i64.wrap (v1 + (1 : Int))) (IntKind.i64.wrap (v5 + (1 : Int))) o23552 := by kernel_rfl
theorem e28 (x0 : Sl U0) (x1 : Int) : enterK prog Ms Ls Gs tb Y.om.lab 28 [svl tS0 x0, .int .i64 x1] =
  L28_4 x1 (0 : Int) x0 := by kernel_rfl
theorem l28_4 (v1 : Int) (v5 : Int) (o15616 : Sl U0) : atK prog Ms Ls Gs tb Y.om.lab 28 (stk prog 28 4) (σ28_4 v1 v5 o15616.n (fun k0 => tS0.cells (o15616.get k0))) =
  (bif (decide (v5 < ((o15616.n : Nat) : Int))) then (if 0 ≤ v5 then (if v5 < ((o15616.n : Nat) : Int) then (if (0 + (v5).toNat) < o15616.n then L28_11 v1 v5 (Sl.set tS0 o15616 (0 + (v5).toNat) ((v1, (o15616.get (0 + (v5).toNat)).1.2.1, (o15616.get (0 + (v5).toNat)).1.2.2), (o15616.get (0 + (v5).toNat)).2)) else none) else none) else none)
 else some (s28.E ((v1, ()), (o15616, ())))) := by kernel_rfl
theorem l28_11 (v1 : Int) (v5 : Int) (o15616 : Sl U0) : atK prog Ms Ls Gs tb Y.om.lab 28 (stk prog 28 11) (σ28_11 v1 v5 o15616.n (fun k0 => tS0.cells (o15616.get k0))) =
  (if 0 ≤ v5 then (if v5 < ((o15616.n : Nat) : Int) then (if (0 + (v5).toNat) < o15616.n then L28_15 (IntKind.i64.wrap (v1 + (1 : Int))) v5 (Sl.set tS0 o15616 (0 + (v5).toNat) (((o15616.get (0 + (v5).toNat)).1.1, (IntKind.i64.wrap (v1 + (1 : Int))), (o15616.get (0 + (v5).toNat)).1.2.2), (o15616.get (0 + (v5).toNat)).2)) else none) else none) else none) := by kernel_rfl
theorem l28_15 (v1 : Int) (v5 : Int) (o15616 : Sl U0) : atK prog Ms Ls Gs tb Y.om.lab 28 (stk prog 28 15) (σ28_15 v1 v5 o15616.n (fun k0 => tS0.cells (o15616.get k0))) =
  (if 0 ≤ v5 then (if v5 < ((o15616.n : Nat) : Int) then (if (0 + (v5).toNat) < o15616.n then L28_19 (IntKind.i64.wrap (v1 + (1 : Int))) v5 (Sl.set tS0 o15616 (0 + (v5).toNat) (((o15616.get (0 + (v5).toNat)).1.1, (o15616.get (0 + (v5).toNat)).1.2.1, (IntKind.i64.wrap (v1 + (1 : Int)))), (o15616.get (0 + (v5).toNat)).2)) else none) else none) else none) := by kernel_rfl
theorem l28_19 (v1 : Int) (v5 : Int) (o15616 : Sl U0) : atK prog Ms Ls Gs tb Y.om.lab 28 (stk prog 28 19) (σ28_19 v1 v5 o15616.n (fun k0 => tS0.cells (o15616.get k0))) =
  (if 0 ≤ v5 then (if v5 < ((o15616.n : Nat) : Int) then (if (0 + (v5).toNat) < o15616.n then L28_23 (IntKind.i64.wrap (v1 + (1 : Int))) v5 (Sl.set tS0 o15616 (0 + (v5).toNat) ((o15616.get (0 + (v5).toNat)).1, ((IntKind.i64.wrap (v1 + (1 : Int))), (o15616.get (0 + (v5).toNat)).2.2.1, (o15616.get (0 + (v5).toNat)).2.2.2))) else none) else none) else none) := by kernel_rfl
theorem l28_23 (v1 : Int) (v5 : Int) (o15616 : Sl U0) : atK prog Ms Ls Gs tb Y.om.lab 28 (stk prog 28 23) (σ28_23 v1 v5 o15616.n (fun k0 => tS0.cells (o15616.get k0))) =
  (if 0 ≤ v5 then (if v5 < ((o15616.n : Nat) : Int) then (if (0 + (v5).toNat) < o15616.n then L28_27 (IntKind.i64.wrap (v1 + (1 : Int))) v5 (Sl.set tS0 o15616 (0 + (v5).toNat) ((o15616.get (0 + (v5).toNat)).1, ((o15616.get (0 + (v5).toNat)).2.1, (IntKind.i64.wrap (v1 + (1 : Int))), (o15616.get (0 + (v5).toNat)).2.2.2))) else none) else none) else none) := by kernel_rfl
theorem l28_27 (v1 : Int) (v5 : Int) (o15616 : Sl U0) : atK prog Ms Ls Gs tb Y.om.lab 28 (stk prog 28 27) (σ28_27 v1 v5 o15616.n (fun k0 => tS0.cells (o15616.get k0))) =
  (if 0 ≤ v5 then (if v5 < ((o15616.n : Nat) : Int) then (if (0 + (v5).toNat) < o15616.n then L28_31 (IntKind.i64.wrap (v1 + (1 : Int))) v5 (Sl.set tS0 o15616 (0 + (v5).toNat) ((o15616.get (0 + (v5).toNat)).1, ((o15616.get (0 + (v5).toNat)).2.1, (o15616.get (0 + (v5).toNat)).2.2.1, (IntKind.i64.wrap (v1 + (1 : Int)))))) else none) else none) else none) := by kernel_rfl
theorem l28_31 (v1 : Int) (v5 : Int) (o15616 : Sl U0) : atK prog Ms Ls Gs tb Y.om.lab 28 (stk prog 28 31) (σ28_31 v1 v5 o15616.n (fun k0 => tS0.cells (o15616.get k0))) =
  L28_4 (IntKind.i64.wrap (v1 + (1 : Int))) (IntKind.i64.wrap (v5 + (1 : Int))) o15616 := by kernel_rfl
theorem e27 (x0 : Sl U0) (x1 : Sl U0) : enterK prog Ms Ls Gs tb Y.om.lab 27 [svl tS0 x0, svl tS0 x1] =
  (bif (((x0.n : Nat) : Int) != ((x1.n : Nat) : Int)) then some (s27.E ((false, ()), ()))
 else L27_8 x0 x1 (0 : Int)) := by kernel_rfl
theorem l27_8 (v0 : Sl U0) (v1 : Sl U0) (v5 : Int) : atK prog Ms Ls Gs tb Y.om.lab 27 (stk prog 27 8) (σ27_8 v0.n (fun k0 => tS0.cells (v0.get k0)) v1.n (fun k0 => tS0.cells (v1.get k0)) v5) =
  (bif (decide (v5 < ((v0.n : Nat) : Int))) then (if 0 ≤ v5 then (if v5 < ((v0.n : Nat) : Int) then (if 0 ≤ v5 then (if v5 < ((v1.n : Nat) : Int) then k65 (v0.get (v5).toNat) (v1.get (v5).toNat) (fun r1 => (bif (!r1.1.1) then some (s27.E ((false, ()), ()))
 else L27_8 v0 v1 (IntKind.i64.wrap (v5 + (1 : Int))))) else none) else none) else none) else none)
 else some (s27.E ((true, ()), ()))) := by kernel_rfl
theorem e65 (x0 : U0) (x1 : U0) : enterK prog Ms Ls Gs tb Y.om.lab 65 [.agg (tS0.cells x0), .agg (tS0.cells x1)] =
  k103 x0.1 x1.1 (fun r1 => (bif (!r1.1.1) then some (s65.E ((false, ()), ()))
 else k103 x0.2 x1.2 (fun r2 => (bif (!r2.1.1) then some (s65.E ((false, ()), ()))
 else some (s65.E ((true, ()), ())))))) := by kernel_rfl
theorem e103 (x0 : U1) (x1 : U1) : enterK prog Ms Ls Gs tb Y.om.lab 103 [.agg (tS1.cells x0), .agg (tS1.cells x1)] =
  (bif (x0.1 != x1.1) then some (s103.E ((false, ()), ()))
 else (bif (x0.2.1 != x1.2.1) then some (s103.E ((false, ()), ()))
 else (bif (x0.2.2 != x1.2.2) then some (s103.E ((false, ()), ()))
 else some (s103.E ((true, ()), ()))))) := by kernel_rfl
theorem e26 (x0 : U7) (x1 : U7) : enterK prog Ms Ls Gs tb Y.om.lab 26 [.agg (tS7.cells x0), .agg (tS7.cells x1)] =
  k63 x0.1 x1.1 (fun r1 => (bif (!r1.1.1) then some (s26.E ((false, ()), ()))
 else k64 x0.2 x1.2 (fun r2 => (bif (!r2.1.1) then some (s26.E ((false, ()), ()))
 else some (s26.E ((true, ()), ())))))) := by kernel_rfl
theorem e64 (x0 : Sl U5) (x1 : Sl U5) : enterK prog Ms Ls Gs tb Y.om.lab 64 [svl tS5 x0, svl tS5 x1] =
  (bif (((x0.n : Nat) : Int) != ((x1.n : Nat) : Int)) then some (s64.E ((false, ()), ()))
 else L64_8 x0 x1 (0 : Int)) := by kernel_rfl
theorem l64_8 (v0 : Sl U5) (v1 : Sl U5) (v5 : Int) : atK prog Ms Ls Gs tb Y.om.lab 64 (stk prog 64 8) (σ64_8 v0.n (fun k0 => tS5.cells (v0.get k0)) v1.n (fun k0 => tS5.cells (v1.get k0)) v5) =
  (bif (decide (v5 < ((v0.n : Nat) : Int))) then (if 0 ≤ v5 then (if v5 < ((v0.n : Nat) : Int) then (if 0 ≤ v5 then (if v5 < ((v1.n : Nat) : Int) then k102 (v0.get (v5).toNat) (v1.get (v5).toNat) (fun r1 => (bif (!r1.1.1) then some (s64.E ((false, ()), ()))
 else L64_8 v0 v1 (IntKind.i64.wrap (v5 + (1 : Int))))) else none) else none) else none) else none)
 else some (s64.E ((true, ()), ()))) := by kernel_rfl
theorem e102 (x0 : U5) (x1 : U5) : enterK prog Ms Ls Gs tb Y.om.lab 102 [.agg (tS5.cells x0), .agg (tS5.cells x1)] =
  (bif (!(x0.1.toList == x1.1.toList)) then some (s102.E ((false, ()), ()))
 else k96 x0.2 x1.2 (fun r1 => (bif (!r1.1.1) then some (s102.E ((false, ()), ()))
 else some (s102.E ((true, ()), ()))))) := by kernel_rfl
theorem e96 (x0 : U6) (x1 : U6) : enterK prog Ms Ls Gs tb Y.om.lab 96 [.agg (tS6.cells x0), .agg (tS6.cells x1)] =
  (bif (x0.1 != x1.1) then some (s96.E ((false, ()), ()))
 else k103 x0.2 x1.2 (fun r1 => (bif (!r1.1.1) then some (s96.E ((false, ()), ()))
 else some (s96.E ((true, ()), ()))))) := by kernel_rfl
theorem e63 (x0 : Sl U2) (x1 : Sl U2) : enterK prog Ms Ls Gs tb Y.om.lab 63 [svl tS2 x0, svl tS2 x1] =
  (bif (((x0.n : Nat) : Int) != ((x1.n : Nat) : Int)) then some (s63.E ((false, ()), ()))
 else L63_8 x0 x1 (0 : Int)) := by kernel_rfl
theorem l63_8 (v0 : Sl U2) (v1 : Sl U2) (v5 : Int) : atK prog Ms Ls Gs tb Y.om.lab 63 (stk prog 63 8) (σ63_8 v0.n (fun k0 => tS2.cells (v0.get k0)) v1.n (fun k0 => tS2.cells (v1.get k0)) v5) =
  (bif (decide (v5 < ((v0.n : Nat) : Int))) then (if 0 ≤ v5 then (if v5 < ((v0.n : Nat) : Int) then (if 0 ≤ v5 then (if v5 < ((v1.n : Nat) : Int) then k101 (v0.get (v5).toNat) (v1.get (v5).toNat) (fun r1 => (bif (!r1.1.1) then some (s63.E ((false, ()), ()))
 else L63_8 v0 v1 (IntKind.i64.wrap (v5 + (1 : Int))))) else none) else none) else none) else none)
 else some (s63.E ((true, ()), ()))) := by kernel_rfl
theorem e101 (x0 : U2) (x1 : U2) : enterK prog Ms Ls Gs tb Y.om.lab 101 [.agg (tS2.cells x0), .agg (tS2.cells x1)] =
  k27 x0.1 x1.1 (fun r1 => (bif (!r1.1.1) then some (s101.E ((false, ()), ()))
 else k150 x0.2.1 x1.2.1 (fun r2 => (bif (!r2.1.1) then some (s101.E ((false, ()), ()))
 else k151 x0.2.2 x1.2.2 (fun r3 => (bif (!r3.1.1) then some (s101.E ((false, ()), ()))
 else some (s101.E ((true, ()), ())))))))) := by kernel_rfl
theorem e151 (x0 : Sl Int) (x1 : Sl Int) : enterK prog Ms Ls Gs tb Y.om.lab 151 [svl tI x0, svl tI x1] =
  (bif (((x0.n : Nat) : Int) != ((x1.n : Nat) : Int)) then some (s151.E ((false, ()), ()))
 else L151_8 x0 x1 (0 : Int)) := by kernel_rfl
theorem l151_8 (v0 : Sl Int) (v1 : Sl Int) (v5 : Int) : atK prog Ms Ls Gs tb Y.om.lab 151 (stk prog 151 8) (σ151_8 v0.n (fun k0 => tI.cells (v0.get k0)) v1.n (fun k0 => tI.cells (v1.get k0)) v5) =
  (bif (decide (v5 < ((v0.n : Nat) : Int))) then (if 0 ≤ v5 then (if v5 < ((v0.n : Nat) : Int) then (if 0 ≤ v5 then (if v5 < ((v1.n : Nat) : Int) then (bif ((v0.get (v5).toNat) != (v1.get (v5).toNat)) then some (s151.E ((false, ()), ()))
 else L151_8 v0 v1 (IntKind.i64.wrap (v5 + (1 : Int)))) else none) else none) else none) else none)
 else some (s151.E ((true, ()), ()))) := by kernel_rfl
theorem e150 (x0 : Sl U3) (x1 : Sl U3) : enterK prog Ms Ls Gs tb Y.om.lab 150 [svl tS3 x0, svl tS3 x1] =
  (bif (((x0.n : Nat) : Int) != ((x1.n : Nat) : Int)) then some (s150.E ((false, ()), ()))
 else L150_8 x0 x1 (0 : Int)) := by kernel_rfl
theorem l150_8 (v0 : Sl U3) (v1 : Sl U3) (v5 : Int) : atK prog Ms Ls Gs tb Y.om.lab 150 (stk prog 150 8) (σ150_8 v0.n (fun k0 => tS3.cells (v0.get k0)) v1.n (fun k0 => tS3.cells (v1.get k0)) v5) =
  (bif (decide (v5 < ((v0.n : Nat) : Int))) then (if 0 ≤ v5 then (if v5 < ((v0.n : Nat) : Int) then (if 0 ≤ v5 then (if v5 < ((v1.n : Nat) : Int) then k189 (v0.get (v5).toNat) (v1.get (v5).toNat) (fun r1 => (bif (!r1.1.1) then some (s150.E ((false, ()), ()))
 else L150_8 v0 v1 (IntKind.i64.wrap (v5 + (1 : Int))))) else none) else none) else none) else none)
 else some (s150.E ((true, ()), ()))) := by kernel_rfl
theorem e189 (x0 : U3) (x1 : U3) : enterK prog Ms Ls Gs tb Y.om.lab 189 [.agg (tS3.cells x0), .agg (tS3.cells x1)] =
  k27 x0.1 x1.1 (fun r1 => (bif (!r1.1.1) then some (s189.E ((false, ()), ()))
 else k222 x0.2 x1.2 (fun r2 => (bif (!r2.1.1) then some (s189.E ((false, ()), ()))
 else some (s189.E ((true, ()), ())))))) := by kernel_rfl
theorem e222 (x0 : U4) (x1 : U4) : enterK prog Ms Ls Gs tb Y.om.lab 222 [.agg (tS4.cells x0), .agg (tS4.cells x1)] =
  (bif (x0.1 != x1.1) then some (s222.E ((false, ()), ()))
 else (bif (!(x0.2.1 == x1.2.1)) then some (s222.E ((false, ()), ()))
 else k103 x0.2.2.1 x1.2.2.1 (fun r1 => (bif (!r1.1.1) then some (s222.E ((false, ()), ()))
 else k103 x0.2.2.2 x1.2.2.2 (fun r2 => (bif (!r2.1.1) then some (s222.E ((false, ()), ()))
 else some (s222.E ((true, ()), ())))))))) := by kernel_rfl
theorem e25 (x0 : Sl U0) : enterK prog Ms Ls Gs tb Y.om.lab 25 [svl tS0 x0] =
  k62 x0 (fun r1 => (bif (r1.1.2.1 != (0 : Int)) then some (s25.E ((((Sl.mk 0 (fun k0 => ((Sl.mk 0 (fun k1 => (((0 : Int), (0 : Int), (0 : Int)), ((0 : Int), (0 : Int), (0 : Int))))), (Sl.mk 0 (fun k1 => ((Sl.mk 0 (fun k2 => (((0 : Int), (0 : Int), (0 : Int)), ((0 : Int), (0 : Int), (0 : Int))))), ((0 : Int), false, ((0 : Int), (0 : Int), (0 : Int)), ((0 : Int), (0 : Int), (0 : Int)))))), (Sl.mk 0 (fun k1 => (0 : Int)))))), (Sl.mk 0 (fun k0 => (ByteArray.empty, ((0 : Int), ((0 : Int), (0 : Int), (0 : Int))))))), r1.1.2.1, ()), ()))
 else some (s25.E ((((Sl.lit tS2 [r1.1.1]), (Sl.mk 0 (fun k0 => (ByteArray.empty, ((0 : Int), ((0 : Int), (0 : Int), (0 : Int))))))), (0 : Int), ()), ())))) := by kernel_rfl
theorem e62 (x0 : Sl U0) : enterK prog Ms Ls Gs tb Y.om.lab 62 [svl tS0 x0] =
  k98 x0 (fun r1 => (bif (!r1.1.1) then some (s62.E ((((Sl.mk 0 (fun k0 => (((0 : Int), (0 : Int), (0 : Int)), ((0 : Int), (0 : Int), (0 : Int))))), (Sl.mk 0 (fun k0 => ((Sl.mk 0 (fun k1 => (((0 : Int), (0 : Int), (0 : Int)), ((0 : Int), (0 : Int), (0 : Int))))), ((0 : Int), false, ((0 : Int), (0 : Int), (0 : Int)), ((0 : Int), (0 : Int), (0 : Int)))))), (Sl.mk 0 (fun k0 => (0 : Int)))), (1 : Int), ()), ()))
 else k99 x0 (fun r2 => k99 x0 (fun r3 => k100 (fun r4 => some (s62.E (((r2.1.1, (Sl.lit tS3 [(r3.1.1, r4.1.1)]), (Sl.lit tI [(0 : Int)])), (0 : Int), ()), ()))))))) := by kernel_rfl
theorem e100  : enterK prog Ms Ls Gs tb Y.om.lab 100 [] =
  some (s100.E ((((0 : Int), false, ((0 : Int), (0 : Int), (0 : Int)), ((0 : Int), (0 : Int), (0 : Int))), ()), ())) := by kernel_rfl
theorem e99 (x0 : Sl U0) : enterK prog Ms Ls Gs tb Y.om.lab 99 [svl tS0 x0] =
  (if 0 < x0.n then (if (0 + x0.n) * 48 ≤ maxRow then some (s99.E (((Sl.app tS0 (Sl.mk 0 (fun k0 => (((0 : Int), (0 : Int), (0 : Int)), ((0 : Int), (0 : Int), (0 : Int))))) x0), ()), ())) else none) else (both (some (s99.E (((Sl.mk 0 (fun k0 => (((0 : Int), (0 : Int), (0 : Int)), ((0 : Int), (0 : Int), (0 : Int))))), ()), ()))) (if (0 + x0.n) * 48 ≤ maxRow then some (s99.E (((Sl.app tS0 (Sl.mk 0 (fun k0 => (((0 : Int), (0 : Int), (0 : Int)), ((0 : Int), (0 : Int), (0 : Int))))) x0), ()), ())) else none))) := by kernel_rfl
theorem e98 (x0 : Sl U0) : enterK prog Ms Ls Gs tb Y.om.lab 98 [svl tS0 x0] =
  k146 x0 (fun r1 => k53 r1.1.1 (3 : Int) (16 : Int) (fun r2 => (bif r2.1.1 then k147 x0 (fun r3 => (bif r3.1.1 then k148 x0 (fun r4 => (bif r4.1.1 then k149 x0 (fun r5 => some (s98.E (((r5.1.1 == (0 : Int)), ()), ())))
 else some (s98.E ((false, ()), ()))))
 else some (s98.E ((false, ()), ()))))
 else some (s98.E ((false, ()), ()))))) := by kernel_rfl
theorem e149 (x0 : Sl U0) : enterK prog Ms Ls Gs tb Y.om.lab 149 [svl tS0 x0] =
  L149_6 x0 (0 : Int) x0 ((x0.n : Nat) : Int) (0 : Int) := by kernel_rfl
theorem l149_6 (v0 : Sl U0) (v3 : Int) (v6 : Sl U0) (v7 : Int) (v8 : Int) : atK prog Ms Ls Gs tb Y.om.lab 149 (stk prog 149 6) (σ149_6 v0.n (fun k0 => tS0.cells (v0.get k0)) v3 v6.n (fun k0 => tS0.cells (v6.get k0)) v7 v8) =
  (bif (decide (v8 < v7)) then (if 0 ≤ v8 then (if v8 < ((v6.n : Nat) : Int) then (if 0 ≤ v3 then (if v3 < ((v0.n : Nat) : Int) then k188 (v6.get (v8).toNat) (v0.get (v3).toNat) (fun r1 => (bif (decide (r1.1.1 < (0 : Int))) then L149_6 v0 v8 v6 v7 (IntKind.i64.wrap (v8 + (1 : Int)))
 else L149_6 v0 v3 v6 v7 (IntKind.i64.wrap (v8 + (1 : Int))))) else none) else none) else none) else none)
 else some (s149.E ((v3, ()), ()))) := by kernel_rfl
theorem e188 (x0 : U0) (x1 : U0) : enterK prog Ms Ls Gs tb Y.om.lab 188 [.agg (tS0.cells x0), .agg (tS0.cells x1)] =
  k221 x0.1 x1.1 (fun r1 => (bif (r1.1.1 != (0 : Int)) then some (s188.E ((r1.1.1, ()), ()))
 else k221 x0.2 x1.2 (fun r2 => some (s188.E ((r2.1.1, ()), ()))))) := by kernel_rfl
theorem e221 (x0 : U1) (x1 : U1) : enterK prog Ms Ls Gs tb Y.om.lab 221 [.agg (tS1.cells x0), .agg (tS1.cells x1)] =
  k244 x0 x1 (fun r1 => k220 r1.1.1 (fun r2 => some (s221.E ((r2.1.1, ()), ())))) := by kernel_rfl
theorem e220 (x0 : U1) : enterK prog Ms Ls Gs tb Y.om.lab 220 [.agg (tS1.cells x0)] =
  k248 x0.1 (fun r1 => k248 x0.2.1 (fun r2 => (bif (r1.1.1 == r2.1.1) then some (s220.E ((r1.1.1, ()), ()))
 else (bif (r2.1.1 == (0 : Int)) then some (s220.E ((r1.1.1, ()), ()))
 else (bif (r1.1.1 == (0 : Int)) then some (s220.E ((r2.1.1, ()), ()))
 else k249 x0.1 x0.2.1 (fun r3 => (bif (!r3.1.1) then some (s220.E ((r2.1.1, ()), ()))
 else some (s220.E ((r1.1.1, ()), ()))))))))) := by kernel_rfl
theorem e249 (x0 : Int) (x1 : Int) : enterK prog Ms Ls Gs tb Y.om.lab 249 [.int .i64 x0, .int .i64 x1] =
  k259 x0 (fun r1 => k259 x0 (fun r2 => k258 (IntKind.u64.wrap (r1.1.1)) (IntKind.u64.wrap (r2.1.1)) (fun r3 => k259 x1 (fun r4 => k259 x1 (fun r5 => k258 (IntKind.u64.wrap (r4.1.1)) (IntKind.u64.wrap (r5.1.1)) (fun r6 => (bif (decide (r3.1.1 > (IntKind.u64.wrap ((BitVec.ofInt IntKind.u64.bits (IntKind.u64.wrap (r6.1.1 * 2 ^ (min 1 IntKind.u64.bits))) ||| BitVec.ofInt IntKind.u64.bits (Int.fdiv r6.1.2.1 (2 ^ (min 63 IntKind.u64.bits)))).toNat)))) then some (s249.E ((true, ()), ()))
 else (bif (r3.1.1 == (IntKind.u64.wrap ((BitVec.ofInt IntKind.u64.bits (IntKind.u64.wrap (r6.1.1 * 2 ^ (min 1 IntKind.u64.bits))) ||| BitVec.ofInt IntKind.u64.bits (Int.fdiv r6.1.2.1 (2 ^ (min 63 IntKind.u64.bits)))).toNat))) then some (s249.E (((decide (r3.1.2.1 > (IntKind.u64.wrap (r6.1.2.1 * 2 ^ (min 1 IntKind.u64.bits))))), ()), ()))
 else some (s249.E ((false, ()), ())))))))))) := by kernel_rfl
end Go.Vk.St
end

section
namespace Go.Vk.St
open Go Go.Proofs Go.Vk
set_option linter.unusedVariables false
set_option maxRecDepth 100000
theorem e258 (x0 : Int) (x1 : Int) : enterK prog Ms Ls Gs tb Y.om.lab 258 [.int .u64 x0, .int .u64 x1] =
  some (s258.E (((IntKind.u64.wrap ((IntKind.u64.wrap ((IntKind.u64.wrap ((Int.fdiv x0 (2 ^ (min 32 IntKind.u64.bits))) * (Int.fdiv x1 (2 ^ (min 32 IntKind.u64.bits))))) + (Int.fdiv (IntKind.u64.wrap ((IntKind.u64.wrap ((Int.fdiv x0 (2 ^ (min 32 IntKind.u64.bits))) * (IntKind.u64.wrap ((BitVec.ofInt IntKind.u64.bits x1 &&& BitVec.ofInt IntKind.u64.bits (4294967295 : Int)).toNat)))) + (Int.fdiv (IntKind.u64.wrap ((IntKind.u64.wrap ((BitVec.ofInt IntKind.u64.bits x0 &&& BitVec.ofInt IntKind.u64.bits (4294967295 : Int)).toNat)) * (IntKind.u64.wrap ((BitVec.ofInt IntKind.u64.bits x1 &&& BitVec.ofInt IntKind.u64.bits (4294967295 : Int)).toNat)))) (2 ^ (min 32 IntKind.u64.bits))))) (2 ^ (min 32 IntKind.u64.bits))))) + (Int.fdiv (IntKind.u64.wrap ((IntKind.u64.wrap ((BitVec.ofInt IntKind.u64.bits (IntKind.u64.wrap ((IntKind.u64.wrap ((Int.fdiv x0 (2 ^ (min 32 IntKind.u64.bits))) * (IntKind.u64.wrap ((BitVec.ofInt IntKind.u64.bits x1 &&& BitVec.ofInt IntKind.u64.bits (4294967295 : Int)).toNat)))) + (Int.fdiv (IntKind.u64.wrap ((IntKind.u64.wrap ((BitVec.ofInt IntKind.u64.bits x0 &&& BitVec.ofInt IntKind.u64.bits (4294967295 : Int)).toNat)) * (IntKind.u64.wrap ((BitVec.ofInt IntKind.u64.bits x1 &&& BitVec.ofInt IntKind.u64.bits (4294967295 : Int)).toNat)))) (2 ^ (min 32 IntKind.u64.bits))))) &&& BitVec.ofInt IntKind.u64.bits (4294967295 : Int)).toNat)) + (IntKind.u64.wrap ((IntKind.u64.wrap ((BitVec.ofInt IntKind.u64.bits x0 &&& BitVec.ofInt IntKind.u64.bits (4294967295 : Int)).toNat)) * (Int.fdiv x1 (2 ^ (min 32 IntKind.u64.bits))))))) (2 ^ (min 32 IntKind.u64.bits))))), (IntKind.u64.wrap (x0 * x1)), ()), ())) := by kernel_rfl
theorem e259 (x0 : Int) : enterK prog Ms Ls Gs tb Y.om.lab 259 [.int .i64 x0] =
  some (s259.E (((if (IntKind.i64.wrap (0 - x0)) > x0 then (IntKind.i64.wrap (0 - x0)) else x0), ()), ())) := by kernel_rfl
theorem e248 (x0 : Int) : enterK prog Ms Ls Gs tb Y.om.lab 248 [.int .i64 x0] =
  some (s248.E (((if (if x0 < (1 : Int) then x0 else (1 : Int)) > (-1 : Int) then (if x0 < (1 : Int) then x0 else (1 : Int)) else (-1 : Int)), ()), ())) := by kernel_rfl
theorem e244 (x0 : U1) (x1 : U1) : enterK prog Ms Ls Gs tb Y.om.lab 244 [.agg (tS1.cells x0), .agg (tS1.cells x1)] =
  k245 x1 (fun r1 => k247 x0 r1.1.1 (fun r2 => some (s244.E ((r2.1.1, ()), ())))) := by kernel_rfl
theorem e247 (x0 : U1) (x1 : U1) : enterK prog Ms Ls Gs tb Y.om.lab 247 [.agg (tS1.cells x0), .agg (tS1.cells x1)] =
  (if (IntKind.i64.wrap ((if x1.2.2 > x0.2.2 then x1.2.2 else x0.2.2) - x0.2.2)) < 0 then none else (if (IntKind.i64.wrap ((if x1.2.2 > x0.2.2 then x1.2.2 else x0.2.2) - x1.2.2)) < 0 then none else (if (IntKind.i64.wrap ((if x1.2.2 > x0.2.2 then x1.2.2 else x0.2.2) - x0.2.2)) < 0 then none else (if (IntKind.i64.wrap ((if x1.2.2 > x0.2.2 then x1.2.2 else x0.2.2) - x1.2.2)) < 0 then none else k257 ((IntKind.i64.wrap ((IntKind.i64.wrap (x0.1 * 2 ^ (min ((IntKind.i64.wrap ((if x1.2.2 > x0.2.2 then x1.2.2 else x0.2.2) - x0.2.2)).toNat) IntKind.i64.bits))) + (IntKind.i64.wrap (x1.1 * 2 ^ (min ((IntKind.i64.wrap ((if x1.2.2 > x0.2.2 then x1.2.2 else x0.2.2) - x1.2.2)).toNat) IntKind.i64.bits))))), (IntKind.i64.wrap ((IntKind.i64.wrap (x0.2.1 * 2 ^ (min ((IntKind.i64.wrap ((if x1.2.2 > x0.2.2 then x1.2.2 else x0.2.2) - x0.2.2)).toNat) IntKind.i64.bits))) + (IntKind.i64.wrap (x1.2.1 * 2 ^ (min ((IntKind.i64.wrap ((if x1.2.2 > x0.2.2 then x1.2.2 else x0.2.2) - x1.2.2)).toNat) IntKind.i64.bits))))), (if x1.2.2 > x0.2.2 then x1.2.2 else x0.2.2)) (fun r1 => some (s247.E ((r1.1.1, ()), ()))))))) := by kernel_rfl
theorem e257 (x0 : U1) : enterK prog Ms Ls Gs tb Y.om.lab 257 [.agg (tS1.cells x0)] =
  L257_2 x0.1 x0.2.1 x0.2.2 (0 : Int) (0 : Int) (0 : Int) := by kernel_rfl
theorem l257_2 (b511_0 : Int) (b511_1 : Int) (b511_2 : Int) (b767_0 : Int) (b767_1 : Int) (b767_2 : Int) : atK prog Ms Ls Gs tb Y.om.lab 257 (stk prog 257 2) (σ257_2 b511_0 b511_1 b511_2 b767_0 b767_1 b767_2) =
  (bif (decide (b511_2 > (0 : Int))) then (bif ((IntKind.i64.wrap ((BitVec.ofInt IntKind.i64.bits b511_0 &&& BitVec.ofInt IntKind.i64.bits (1 : Int)).toNat)) == (0 : Int)) then (bif ((IntKind.i64.wrap ((BitVec.ofInt IntKind.i64.bits b511_1 &&& BitVec.ofInt IntKind.i64.bits (1 : Int)).toNat)) == (0 : Int)) then (bif ((IntKind.i64.wrap (Int.tdiv b511_0 (2 : Int))) == (0 : Int)) then (bif ((IntKind.i64.wrap (Int.tdiv b511_1 (2 : Int))) == (0 : Int)) then L257_2 (IntKind.i64.wrap (Int.tdiv b511_0 (2 : Int))) (IntKind.i64.wrap (Int.tdiv b511_1 (2 : Int))) (0 : Int) b767_0 b767_1 b767_2
 else L257_2 (IntKind.i64.wrap (Int.tdiv b511_0 (2 : Int))) (IntKind.i64.wrap (Int.tdiv b511_1 (2 : Int))) (IntKind.i64.wrap (b511_2 - (1 : Int))) b767_0 b767_1 b767_2)
 else L257_2 (IntKind.i64.wrap (Int.tdiv b511_0 (2 : Int))) (IntKind.i64.wrap (Int.tdiv b511_1 (2 : Int))) (IntKind.i64.wrap (b511_2 - (1 : Int))) b767_0 b767_1 b767_2)
 else some (s257.E (((b511_0, b511_1, b511_2), ()), ())))
 else some (s257.E (((b511_0, b511_1, b511_2), ()), ())))
 else some (s257.E (((b511_0, b511_1, b511_2), ()), ()))) := by kernel_rfl
theorem e245 (x0 : U1) : enterK prog Ms Ls Gs tb Y.om.lab 245 [.agg (tS1.cells x0)] =
  some (s245.E ((((IntKind.i64.wrap (0 - x0.1)), (IntKind.i64.wrap (0 - x0.2.1)), x0.2.2), ()), ())) := by kernel_rfl
theorem e148 (x0 : Sl U0) : enterK prog Ms Ls Gs tb Y.om.lab 148 [svl tS0 x0] =
  (bif (decide (((x0.n : Nat) : Int) < (3 : Int))) then some (s148.E ((false, ()), ()))
 else (if 0 ≤ (IntKind.i64.wrap (((x0.n : Nat) : Int) - (1 : Int))) then (if (IntKind.i64.wrap (((x0.n : Nat) : Int) - (1 : Int))) < ((x0.n : Nat) : Int) then (if (0 : Int) < ((x0.n : Nat) : Int) then k186 (x0.get ((IntKind.i64.wrap (((x0.n : Nat) : Int) - (1 : Int))).toNat)) (x0.get 0) (fun r1 => L148_14 x0 ((x0.n : Nat) : Int) (0 : Int) r1.1.1 x0 ((x0.n : Nat) : Int) (0 : Int)) else none) else none) else none)) := by kernel_rfl
theorem l148_14 (v0 : Sl U0) (v3 : Int) (v4 : Int) (v5 : Int) (v23 : Sl U0) (v24 : Int) (v25 : Int) : atK prog Ms Ls Gs tb Y.om.lab 148 (stk prog 148 14) (σ148_14 v0.n (fun k0 => tS0.cells (v0.get k0)) v3 v4 v5 v23.n (fun k0 => tS0.cells (v23.get k0)) v24 v25) =
  (bif (decide (v25 < v24)) then (if 0 ≤ v25 then (if v25 < ((v23.n : Nat) : Int) then (if v3 = 0 then none else (if 0 ≤ (Int.tmod (IntKind.i64.wrap (v25 + (1 : Int))) v3) then (if (Int.tmod (IntKind.i64.wrap (v25 + (1 : Int))) v3) < ((v0.n : Nat) : Int) then k186 (v23.get (v25).toNat) (v0.get ((Int.tmod (IntKind.i64.wrap (v25 + (1 : Int))) v3).toNat)) (fun r1 => k187 (IntKind.i64.wrap (r1.1.1 - v5)) (fun r2 => (bif (decide (r1.1.1 < (0 : Int))) then some (s148.E ((false, ()), ()))
 else (bif (decide (v5 < (0 : Int))) then some (s148.E ((false, ()), ()))
 else k53 r2.1.1 (1 : Int) (7 : Int) (fun r3 => (bif (!r3.1.1) then some (s148.E ((false, ()), ()))
 else L148_14 v0 v3 (IntKind.i64.wrap (v4 + r2.1.1)) r1.1.1 v23 v24 (IntKind.i64.wrap (v25 + (1 : Int))))))))) else none) else none)) else none) else none)
 else some (s148.E (((v4 == (16 : Int)), ()), ()))) := by kernel_rfl
theorem e187 (x0 : Int) : enterK prog Ms Ls Gs tb Y.om.lab 187 [.int .i64 x0] =
  some (s187.E (((IntKind.i64.wrap ((BitVec.ofInt IntKind.i64.bits x0 &&& BitVec.ofInt IntKind.i64.bits (15 : Int)).toNat)), ()), ())) := by kernel_rfl
theorem e186 (x0 : U0) (x1 : U0) : enterK prog Ms Ls Gs tb Y.om.lab 186 [.agg (tS0.cells x0), .agg (tS0.cells x1)] =
  k216 x1 x0 (fun r1 => L186_6 (0 : Int) r1.1.1.1.1 r1.1.1.1.2.1 r1.1.1.1.2.2 r1.1.1.2.1 r1.1.1.2.2.1 r1.1.1.2.2.2) := by kernel_rfl
theorem l186_6 (v11 : Int) (b1535_0 : Int) (b1535_1 : Int) (b1535_2 : Int) (b1535_3 : Int) (b1535_4 : Int) (b1535_5 : Int) : atK prog Ms Ls Gs tb Y.om.lab 186 (stk prog 186 6) (σ186_6 v11 b1535_0 b1535_1 b1535_2 b1535_3 b1535_4 b1535_5) =
  (bif (decide (v11 < (16 : Int))) then k217 v11 (fun r1 => k218 r1.1.1 ((b1535_0, b1535_1, b1535_2), (b1535_3, b1535_4, b1535_5)) (fun r2 => (bif ((r2.1.1.1 == (0 : Int)) && ((r2.1.1.2.1 == (0 : Int)) && ((r2.1.1.2.2 == (0 : Int)) && true))) then k219 r1.1.1 ((b1535_0, b1535_1, b1535_2), (b1535_3, b1535_4, b1535_5)) (fun r3 => k220 r3.1.1 (fun r4 => (bif (decide (r4.1.1 > (0 : Int))) then some (s186.E ((v11, ()), ()))
 else L186_6 (IntKind.i64.wrap (v11 + (1 : Int))) b1535_0 b1535_1 b1535_2 b1535_3 b1535_4 b1535_5)))
 else L186_6 (IntKind.i64.wrap (v11 + (1 : Int))) b1535_0 b1535_1 b1535_2 b1535_3 b1535_4 b1535_5)))
 else some (s186.E (((-1 : Int), ()), ()))) := by kernel_rfl
theorem e219 (x0 : U0) (x1 : U0) : enterK prog Ms Ls Gs tb Y.om.lab 219 [.agg (tS0.cells x0), .agg (tS0.cells x1)] =
  k246 x0.1 x1.1 (fun r1 => k246 x0.2 x1.2 (fun r2 => k247 r1.1.1 r2.1.1 (fun r3 => some (s219.E ((r3.1.1, ()), ()))))) := by kernel_rfl
theorem e246 (x0 : U1) (x1 : U1) : enterK prog Ms Ls Gs tb Y.om.lab 246 [.agg (tS1.cells x0), .agg (tS1.cells x1)] =
  k257 ((IntKind.i64.wrap ((IntKind.i64.wrap (x0.1 * x1.1)) + (IntKind.i64.wrap ((IntKind.i64.wrap ((2 : Int) * x0.2.1)) * x1.2.1)))), (IntKind.i64.wrap ((IntKind.i64.wrap (x0.1 * x1.2.1)) + (IntKind.i64.wrap (x0.2.1 * x1.1)))), (IntKind.i64.wrap (x0.2.2 + x1.2.2))) (fun r1 => some (s246.E ((r1.1.1, ()), ()))) := by kernel_rfl
theorem e218 (x0 : U0) (x1 : U0) : enterK prog Ms Ls Gs tb Y.om.lab 218 [.agg (tS0.cells x0), .agg (tS0.cells x1)] =
  k246 x0.1 x1.2 (fun r1 => k246 x0.2 x1.1 (fun r2 => k244 r1.1.1 r2.1.1 (fun r3 => some (s218.E ((r3.1.1, ()), ()))))) := by kernel_rfl
theorem e217 (x0 : Int) : enterK prog Ms Ls Gs tb Y.om.lab 217 [.int .i64 x0] =
  (bif (decide (x0 ≥ (8 : Int))) then (if 0 ≤ (IntKind.i64.wrap (x0 - (8 : Int))) then (if (IntKind.i64.wrap (x0 - (8 : Int))) < (8 : Int) then k245 ((List.getD [(1 : Int), (1 : Int), (1 : Int), (-1 : Int), (0 : Int), (1 : Int), (-1 : Int), (-1 : Int)] ((IntKind.i64.wrap (x0 - (8 : Int))).toNat) (0 : Int)), (List.getD [(0 : Int), (0 : Int), (0 : Int), (1 : Int), (0 : Int), (-1 : Int), (0 : Int), (0 : Int)] ((IntKind.i64.wrap (x0 - (8 : Int))).toNat) (0 : Int)), (List.getD [(0 : Int), (0 : Int), (0 : Int), (0 : Int), (0 : Int), (0 : Int), (0 : Int), (0 : Int)] ((IntKind.i64.wrap (x0 - (8 : Int))).toNat) (0 : Int))) (fun r1 => k245 ((List.getD [(0 : Int), (-1 : Int), (1 : Int), (1 : Int), (1 : Int), (1 : Int), (1 : Int), (-1 : Int)] ((IntKind.i64.wrap (x0 - (8 : Int))).toNat) (0 : Int)), (List.getD [(0 : Int), (1 : Int), (0 : Int), (0 : Int), (0 : Int), (0 : Int), (0 : Int), (1 : Int)] ((IntKind.i64.wrap (x0 - (8 : Int))).toNat) (0 : Int)), (List.getD [(0 : Int), (0 : Int), (0 : Int), (0 : Int), (0 : Int), (0 : Int), (0 : Int), (0 : Int)] ((IntKind.i64.wrap (x0 - (8 : Int))).toNat) (0 : Int))) (fun r2 => some (s217.E (((r1.1.1, r2.1.1), ()), ())))) else none) else none)
 else (if 0 ≤ x0 then (if x0 < (8 : Int) then some (s217.E (((((List.getD [(1 : Int), (1 : Int), (1 : Int), (-1 : Int), (0 : Int), (1 : Int), (-1 : Int), (-1 : Int)] (x0).toNat (0 : Int)), (List.getD [(0 : Int), (0 : Int), (0 : Int), (1 : Int), (0 : Int), (-1 : Int), (0 : Int), (0 : Int)] (x0).toNat (0 : Int)), (List.getD [(0 : Int), (0 : Int), (0 : Int), (0 : Int), (0 : Int), (0 : Int), (0 : Int), (0 : Int)] (x0).toNat (0 : Int))), ((List.getD [(0 : Int), (-1 : Int), (1 : Int), (1 : Int), (1 : Int), (1 : Int), (1 : Int), (-1 : Int)] (x0).toNat (0 : Int)), (List.getD [(0 : Int), (1 : Int), (0 : Int), (0 : Int), (0 : Int), (0 : Int), (0 : Int), (1 : Int)] (x0).toNat (0 : Int)), (List.getD [(0 : Int), (0 : Int), (0 : Int), (0 : Int), (0 : Int), (0 : Int), (0 : Int), (0 : Int)] (x0).toNat (0 : Int)))), ()), ())) else none) else none)) := by kernel_rfl
theorem e216 (x0 : U0) (x1 : U0) : enterK prog Ms Ls Gs tb Y.om.lab 216 [.agg (tS0.cells x0), .agg (tS0.cells x1)] =
  k244 x0.1 x1.1 (fun r1 => k244 x0.2 x1.2 (fun r2 => some (s216.E (((r1.1.1, r2.1.1), ()), ())))) := by kernel_rfl
theorem e147 (x0 : Sl U0) : enterK prog Ms Ls Gs tb Y.om.lab 147 [svl tS0 x0] =
  c183 [svl tS0 x0, .fn 184 []] (fun r1 => some (s147.E (((!r1.1.1), ()), ()))) := by kernel_rfl
theorem e183c184 (x0 : Sl U0) : enterK prog Ms Ls Gs tb Y.om.lab 183 [svl tS0 x0, .fn 184 []] =
  c215 [svl tS0 x0, .fn 184 []] (fun r1 => some (s183.E (((decide (r1.1.1 ≥ (0 : Int))), ()), ()))) := by kernel_rfl
theorem e215c184 (x0 : Sl U0) : enterK prog Ms Ls Gs tb Y.om.lab 215 [svl tS0 x0, .fn 184 []] =
  L215c184_4 x0 ((x0.n : Nat) : Int) (0 : Int) := by kernel_rfl
theorem l215c184_4 (v0 : Sl U0) (v7 : Int) (v8 : Int) : atK prog Ms Ls Gs tb Y.om.lab 215 (stk prog 215 4) (σ215c184_4 v0.n (fun k0 => tS0.cells (v0.get k0)) v7 v8) =
  (bif (decide (v8 < v7)) then (if 0 ≤ v8 then (if v8 < ((v0.n : Nat) : Int) then k184 (v0.get (v8).toNat) (fun r1 => (bif r1.1.1 then some (s215.E ((v8, ()), ()))
 else L215c184_4 v0 v7 (IntKind.i64.wrap (v8 + (1 : Int))))) else none) else none)
 else some (s215.E (((-1 : Int), ()), ()))) := by kernel_rfl
theorem e184 (x0 : U0) : enterK prog Ms Ls Gs tb Y.om.lab 184 [.agg (tS0.cells x0)] =
  k185 x0 (fun r1 => some (s184.E (((!r1.1.1), ()), ()))) := by kernel_rfl
theorem e185 (x0 : U0) : enterK prog Ms Ls Gs tb Y.om.lab 185 [.agg (tS0.cells x0)] =
  k92 x0.1 (fun r1 => (bif r1.1.1 then k92 x0.2 (fun r2 => some (s185.E ((r2.1.1, ()), ())))
 else some (s185.E ((false, ()), ())))) := by kernel_rfl
theorem e92 (x0 : U1) : enterK prog Ms Ls Gs tb Y.om.lab 92 [.agg (tS1.cells x0)] =
  k53 x0.1 (-131072 : Int) (131072 : Int) (fun r1 => (bif r1.1.1 then k53 x0.2.1 (-131072 : Int) (131072 : Int) (fun r2 => (bif r2.1.1 then k53 x0.2.2 (0 : Int) (10 : Int) (fun r3 => (bif r3.1.1 then (bif (x0.2.2 == (0 : Int)) then some (s92.E ((true, ()), ()))
 else (bif ((IntKind.i64.wrap ((BitVec.ofInt IntKind.i64.bits x0.1 &&& BitVec.ofInt IntKind.i64.bits (1 : Int)).toNat)) == (1 : Int)) then some (s92.E ((true, ()), ()))
 else some (s92.E ((((IntKind.i64.wrap ((BitVec.ofInt IntKind.i64.bits x0.2.1 &&& BitVec.ofInt IntKind.i64.bits (1 : Int)).toNat)) == (1 : Int)), ()), ()))))
 else some (s92.E ((false, ()), ()))))
 else some (s92.E ((false, ()), ()))))
 else some (s92.E ((false, ()), ())))) := by kernel_rfl
theorem e53 (x0 : Int) (x1 : Int) (x2 : Int) : enterK prog Ms Ls Gs tb Y.om.lab 53 [.int .i64 x0, .int .i64 x1, .int .i64 x2] =
  (bif (decide (x0 ≥ x1)) then some (s53.E (((decide (x0 ≤ x2)), ()), ()))
 else some (s53.E ((false, ()), ()))) := by kernel_rfl
theorem e146 (x0 : Sl U0) : enterK prog Ms Ls Gs tb Y.om.lab 146 [svl tS0 x0] =
  some (s146.E ((((x0.n : Nat) : Int), ()), ())) := by kernel_rfl
theorem e23 (x0 : Sl U0) : enterK prog Ms Ls Gs tb Y.om.lab 23 [svl tS0 x0] =
  k60 x0 (fun r1 => (bif (r1.1.2.1 != (0 : Int)) then some (s23.E ((((Sl.mk 0 (fun k0 => ((Sl.mk 0 (fun k1 => (((0 : Int), (0 : Int), (0 : Int)), ((0 : Int), (0 : Int), (0 : Int))))), (Sl.mk 0 (fun k1 => ((Sl.mk 0 (fun k2 => (((0 : Int), (0 : Int), (0 : Int)), ((0 : Int), (0 : Int), (0 : Int))))), ((0 : Int), false, ((0 : Int), (0 : Int), (0 : Int)), ((0 : Int), (0 : Int), (0 : Int)))))), (Sl.mk 0 (fun k1 => (0 : Int)))))), (Sl.mk 0 (fun k0 => (ByteArray.empty, ((0 : Int), ((0 : Int), (0 : Int), (0 : Int))))))), r1.1.2.1, ()), ()))
 else some (s23.E ((((Sl.lit tS2 [r1.1.1]), (Sl.mk 0 (fun k0 => (ByteArray.empty, ((0 : Int), ((0 : Int), (0 : Int), (0 : Int))))))), (0 : Int), ()), ())))) := by kernel_rfl
theorem e60 (x0 : Sl U0) : enterK prog Ms Ls Gs tb Y.om.lab 60 [svl tS0 x0] =
  k97 x0 (fun r1 => (bif (!r1.1.1) then some (s60.E ((((Sl.mk 0 (fun k0 => (((0 : Int), (0 : Int), (0 : Int)), ((0 : Int), (0 : Int), (0 : Int))))), (Sl.mk 0 (fun k0 => ((Sl.mk 0 (fun k1 => (((0 : Int), (0 : Int), (0 : Int)), ((0 : Int), (0 : Int), (0 : Int))))), ((0 : Int), false, ((0 : Int), (0 : Int), (0 : Int)), ((0 : Int), (0 : Int), (0 : Int)))))), (Sl.mk 0 (fun k0 => (0 : Int)))), (1 : Int), ()), ()))
 else (if (0 + x0.n) * 48 ≤ maxRow then (if (0 + x0.n) * 48 ≤ maxRow then some (s60.E ((((Sl.app tS0 (Sl.mk 0 (fun k0 => (((0 : Int), (0 : Int), (0 : Int)), ((0 : Int), (0 : Int), (0 : Int))))) x0), (Sl.lit tS3 [((Sl.app tS0 (Sl.mk 0 (fun k0 => (((0 : Int), (0 : Int), (0 : Int)), ((0 : Int), (0 : Int), (0 : Int))))) x0), ((0 : Int), false, ((0 : Int), (0 : Int), (0 : Int)), ((0 : Int), (0 : Int), (0 : Int))))]), (Sl.lit tI [(0 : Int)])), (0 : Int), ()), ())) else none) else none))) := by kernel_rfl
theorem e97 (x0 : Sl U0) : enterK prog Ms Ls Gs tb Y.om.lab 97 [svl tS0 x0] =
  (bif (decide (((x0.n : Nat) : Int) < (3 : Int))) then some (s97.E ((false, ()), ()))
 else (bif (decide (((x0.n : Nat) : Int) > (16 : Int))) then some (s97.E ((false, ()), ()))
 else L97_10 x0 ((x0.n : Nat) : Int) (0 : Int))) := by kernel_rfl
theorem l97_10 (v0 : Sl U0) (v3 : Int) (v4 : Int) : atK prog Ms Ls Gs tb Y.om.lab 97 (stk prog 97 10) (σ97_10 v0.n (fun k0 => tS0.cells (v0.get k0)) v3 v4) =
  (bif (decide (v4 < v3)) then (if 0 ≤ v4 then (if v4 < ((v0.n : Nat) : Int) then k141 (v0.get (v4).toNat) (fun r1 => (bif (!r1.1.1) then some (s97.E ((false, ()), ()))
 else (bif (decide (v4 > (0 : Int))) then (if (0 : Int) < ((v0.n : Nat) : Int) then (if 0 ≤ v4 then (if v4 < ((v0.n : Nat) : Int) then k142 (v0.get 0) (v0.get (v4).toNat) (fun r2 => (bif (decide (r2.1.1 ≥ (0 : Int))) then some (s97.E ((false, ()), ()))
 else L97_10 v0 v3 (IntKind.i64.wrap (v4 + (1 : Int))))) else none) else none) else none)
 else L97_10 v0 v3 (IntKind.i64.wrap (v4 + (1 : Int)))))) else none) else none)
 else k144 v0 (fun r3 => k143 r3.1.1 (fun r4 => (bif (!r4.1.2.1) then some (s97.E ((false, ()), ()))
 else L97_28 v3 (0 : Int) (0 : Int) r4.1.1)))) := by kernel_rfl
theorem l97_28 (v3 : Int) (v7 : Int) (v8 : Int) (o1535 : Sl Int) : atK prog Ms Ls Gs tb Y.om.lab 97 (stk prog 97 28) (σ97_28 v3 v7 v8 o1535.n (fun k0 => tI.cells (o1535.get k0))) =
  (bif (decide (v8 < v3)) then (if v3 = 0 then none else (if 0 ≤ (Int.tmod (IntKind.i64.wrap (v8 + (1 : Int))) v3) then (if (Int.tmod (IntKind.i64.wrap (v8 + (1 : Int))) v3) < ((o1535.n : Nat) : Int) then (if (0 + (Int.tmod (IntKind.i64.wrap (v8 + (1 : Int))) v3).toNat) < o1535.n then (if 0 ≤ v8 then (if v8 < ((o1535.n : Nat) : Int) then (if (0 + (v8).toNat) < o1535.n then k145 (IntKind.i64.wrap ((o1535.get (0 + (Int.tmod (IntKind.i64.wrap (v8 + (1 : Int))) v3).toNat)) - (o1535.get (0 + (v8).toNat)))) (fun r1 => k88 r1.1.1 (1 : Int) (7 : Int) (fun r2 => (bif (!r2.1.1) then some (s97.E ((false, ()), ()))
 else L97_28 v3 (IntKind.i64.wrap (v7 + r1.1.1)) (IntKind.i64.wrap (v8 + (1 : Int))) o1535))) else none) else none) else none) else none) else none) else none))
 else some (s97.E (((v7 == (16 : Int)), ()), ()))) := by kernel_rfl
theorem e88 (x0 : Int) (x1 : Int) (x2 : Int) : enterK prog Ms Ls Gs tb Y.om.lab 88 [.int .i64 x0, .int .i64 x1, .int .i64 x2] =
  (bif (decide (x0 ≥ x1)) then some (s88.E (((decide (x0 ≤ x2)), ()), ()))
 else some (s88.E ((false, ()), ()))) := by kernel_rfl
theorem e145 (x0 : Int) : enterK prog Ms Ls Gs tb Y.om.lab 145 [.int .i64 x0] =
  some (s145.E (((Int.tmod (IntKind.i64.wrap ((Int.tmod x0 (16 : Int)) + (16 : Int))) (16 : Int)), ()), ())) := by kernel_rfl
theorem e143 (x0 : Sl U0) : enterK prog Ms Ls Gs tb Y.om.lab 143 [svl tS0 x0] =
  L143_6 x0 (0 : Int) (Sl.mk 0 (fun k0 => (0 : Int))) := by kernel_rfl
theorem l143_6 (v0 : Sl U0) (v5 : Int) (o1279 : Sl Int) : atK prog Ms Ls Gs tb Y.om.lab 143 (stk prog 143 6) (σ143_6 v0.n (fun k0 => tS0.cells (v0.get k0)) v5 o1279.n (fun k0 => tI.cells (o1279.get k0))) =
  (bif (decide (v5 < ((v0.n : Nat) : Int))) then (if ((v0.n : Nat) : Int) = 0 then none else (if 0 ≤ (Int.tmod (IntKind.i64.wrap (v5 + (1 : Int))) ((v0.n : Nat) : Int)) then (if (Int.tmod (IntKind.i64.wrap (v5 + (1 : Int))) ((v0.n : Nat) : Int)) < ((v0.n : Nat) : Int) then (if 0 ≤ v5 then (if v5 < ((v0.n : Nat) : Int) then k181 (v0.get ((Int.tmod (IntKind.i64.wrap (v5 + (1 : Int))) ((v0.n : Nat) : Int)).toNat)) (v0.get (v5).toNat) (fun r1 => k180 r1.1.1 (fun r2 => (bif (decide (r2.1.1 < (0 : Int))) then some (s143.E (((Sl.mk 0 (fun k0 => (0 : Int))), false, ()), ()))
 else (if (o1279.n + 1) * 8 ≤ maxRow then L143_6 v0 (IntKind.i64.wrap (v5 + (1 : Int))) (Sl.app tI o1279 (Sl.lit tI [r2.1.1])) else none)))) else none) else none) else none) else none))
 else some (s143.E ((o1279, true, ()), ()))) := by kernel_rfl
theorem e180 (x0 : U0) : enterK prog Ms Ls Gs tb Y.om.lab 180 [.agg (tS0.cells x0)] =
  L180_4 (0 : Int) x0.1.1 x0.1.2.1 x0.1.2.2 x0.2.1 x0.2.2.1 x0.2.2.2 := by kernel_rfl
theorem l180_4 (v3 : Int) (b511_0 : Int) (b511_1 : Int) (b511_2 : Int) (b511_3 : Int) (b511_4 : Int) (b511_5 : Int) : atK prog Ms Ls Gs tb Y.om.lab 180 (stk prog 180 4) (σ180_4 v3 b511_0 b511_1 b511_2 b511_3 b511_4 b511_5) =
  (bif (decide (v3 < (16 : Int))) then k214 (IntKind.i64.wrap (v3 + (4 : Int))) ((b511_0, b511_1, b511_2), (b511_3, b511_4, b511_5)) (fun r1 => k213 r1.1.1 (fun r2 => (bif r2.1.1 then k214 v3 ((b511_0, b511_1, b511_2), (b511_3, b511_4, b511_5)) (fun r3 => k210 r3.1.1 (fun r4 => (bif (decide (r4.1.1 > (0 : Int))) then some (s180.E ((v3, ()), ()))
 else L180_4 (IntKind.i64.wrap (v3 + (1 : Int))) b511_0 b511_1 b511_2 b511_3 b511_4 b511_5)))
 else L180_4 (IntKind.i64.wrap (v3 + (1 : Int))) b511_0 b511_1 b511_2 b511_3 b511_4 b511_5)))
 else some (s180.E (((-1 : Int), ()), ()))) := by kernel_rfl
theorem e210 (x0 : U1) : enterK prog Ms Ls Gs tb Y.om.lab 210 [.agg (tS1.cells x0)] =
  (bif (x0.1 == (0 : Int)) then (bif (x0.2.1 == (0 : Int)) then some (s210.E (((0 : Int), ()), ()))
 else (bif (decide (x0.1 ≥ (0 : Int))) then (bif (decide (x0.2.1 ≥ (0 : Int))) then some (s210.E (((1 : Int), ()), ()))
 else (bif (decide (x0.1 ≤ (0 : Int))) then (bif (decide (x0.2.1 ≤ (0 : Int))) then some (s210.E (((-1 : Int), ()), ()))
 else k239 x0.1 x0.2.1 (fun r1 => (bif (r1.1.1 == (decide (x0.2.1 > (0 : Int)))) then some (s210.E (((1 : Int), ()), ()))
 else some (s210.E (((-1 : Int), ()), ())))))
 else k239 x0.1 x0.2.1 (fun r2 => (bif (r2.1.1 == (decide (x0.2.1 > (0 : Int)))) then some (s210.E (((1 : Int), ()), ()))
 else some (s210.E (((-1 : Int), ()), ()))))))
 else (bif (decide (x0.1 ≤ (0 : Int))) then (bif (decide (x0.2.1 ≤ (0 : Int))) then some (s210.E (((-1 : Int), ()), ()))
 else k239 x0.1 x0.2.1 (fun r3 => (bif (r3.1.1 == (decide (x0.2.1 > (0 : Int)))) then some (s210.E (((1 : Int), ()), ()))
 else some (s210.E (((-1 : Int), ()), ())))))
 else k239 x0.1 x0.2.1 (fun r4 => (bif (r4.1.1 == (decide (x0.2.1 > (0 : Int)))) then some (s210.E (((1 : Int), ()), ()))
 else some (s210.E (((-1 : Int), ()), ())))))))
 else (bif (decide (x0.1 ≥ (0 : Int))) then (bif (decide (x0.2.1 ≥ (0 : Int))) then some (s210.E (((1 : Int), ()), ()))
 else (bif (decide (x0.1 ≤ (0 : Int))) then (bif (decide (x0.2.1 ≤ (0 : Int))) then some (s210.E (((-1 : Int), ()), ()))
 else k239 x0.1 x0.2.1 (fun r5 => (bif (r5.1.1 == (decide (x0.2.1 > (0 : Int)))) then some (s210.E (((1 : Int), ()), ()))
 else some (s210.E (((-1 : Int), ()), ())))))
 else k239 x0.1 x0.2.1 (fun r6 => (bif (r6.1.1 == (decide (x0.2.1 > (0 : Int)))) then some (s210.E (((1 : Int), ()), ()))
 else some (s210.E (((-1 : Int), ()), ()))))))
 else (bif (decide (x0.1 ≤ (0 : Int))) then (bif (decide (x0.2.1 ≤ (0 : Int))) then some (s210.E (((-1 : Int), ()), ()))
 else k239 x0.1 x0.2.1 (fun r7 => (bif (r7.1.1 == (decide (x0.2.1 > (0 : Int)))) then some (s210.E (((1 : Int), ()), ()))
 else some (s210.E (((-1 : Int), ()), ())))))
 else k239 x0.1 x0.2.1 (fun r8 => (bif (r8.1.1 == (decide (x0.2.1 > (0 : Int)))) then some (s210.E (((1 : Int), ()), ()))
 else some (s210.E (((-1 : Int), ()), ()))))))) := by kernel_rfl
theorem e239 (x0 : Int) (x1 : Int) : enterK prog Ms Ls Gs tb Y.om.lab 239 [.int .i64 x0, .int .i64 x1] =
  k256 x0 (fun r1 => k256 x1 (fun r2 => (bif (decide (r1.1.1 < (IntKind.u64.wrap ((IntKind.u64.wrap (r2.1.1 * (2 : Int))) + (Int.fdiv r2.1.2.1 (2 ^ (min 63 IntKind.u64.bits))))))) then some (s239.E ((true, ()), ()))
 else (bif (r1.1.1 == (IntKind.u64.wrap ((IntKind.u64.wrap (r2.1.1 * (2 : Int))) + (Int.fdiv r2.1.2.1 (2 ^ (min 63 IntKind.u64.bits)))))) then some (s239.E (((decide (r1.1.2.1 < (IntKind.u64.wrap (r2.1.2.1 * (2 : Int))))), ()), ()))
 else some (s239.E ((false, ()), ())))))) := by kernel_rfl
end Go.Vk.St
end

section
namespace Go.Vk.St
open Go Go.Proofs Go.Vk
set_option linter.unusedVariables false
set_option maxRecDepth 100000
theorem e256 (x0 : Int) : enterK prog Ms Ls Gs tb Y.om.lab 256 [.int .i64 x0] =
  (bif (decide (x0 < (0 : Int))) then (bif (decide ((IntKind.u64.wrap ((IntKind.u64.wrap ((IntKind.u64.wrap ((BitVec.ofInt IntKind.u64.bits (IntKind.u64.wrap ((IntKind.i64.wrap (0 - x0)))) &&& BitVec.ofInt IntKind.u64.bits (4294967295 : Int)).toNat)) * (IntKind.u64.wrap ((BitVec.ofInt IntKind.u64.bits (IntKind.u64.wrap ((IntKind.i64.wrap (0 - x0)))) &&& BitVec.ofInt IntKind.u64.bits (4294967295 : Int)).toNat)))) + (IntKind.u64.wrap ((IntKind.u64.wrap ((IntKind.u64.wrap ((2 : Int) * (IntKind.u64.wrap ((BitVec.ofInt IntKind.u64.bits (IntKind.u64.wrap ((IntKind.i64.wrap (0 - x0)))) &&& BitVec.ofInt IntKind.u64.bits (4294967295 : Int)).toNat)))) * (Int.fdiv (IntKind.u64.wrap ((IntKind.i64.wrap (0 - x0)))) (2 ^ (min 32 IntKind.u64.bits))))) * 2 ^ (min 32 IntKind.u64.bits))))) < (IntKind.u64.wrap ((IntKind.u64.wrap ((BitVec.ofInt IntKind.u64.bits (IntKind.u64.wrap ((IntKind.i64.wrap (0 - x0)))) &&& BitVec.ofInt IntKind.u64.bits (4294967295 : Int)).toNat)) * (IntKind.u64.wrap ((BitVec.ofInt IntKind.u64.bits (IntKind.u64.wrap ((IntKind.i64.wrap (0 - x0)))) &&& BitVec.ofInt IntKind.u64.bits (4294967295 : Int)).toNat)))))) then some (s256.E (((IntKind.u64.wrap ((IntKind.u64.wrap ((Int.fdiv (IntKind.u64.wrap ((IntKind.i64.wrap (0 - x0)))) (2 ^ (min 32 IntKind.u64.bits))) * (Int.fdiv (IntKind.u64.wrap ((IntKind.i64.wrap (0 - x0)))) (2 ^ (min 32 IntKind.u64.bits))))) + (IntKind.u64.wrap ((Int.fdiv (IntKind.u64.wrap ((IntKind.u64.wrap ((2 : Int) * (IntKind.u64.wrap ((BitVec.ofInt IntKind.u64.bits (IntKind.u64.wrap ((IntKind.i64.wrap (0 - x0)))) &&& BitVec.ofInt IntKind.u64.bits (4294967295 : Int)).toNat)))) * (Int.fdiv (IntKind.u64.wrap ((IntKind.i64.wrap (0 - x0)))) (2 ^ (min 32 IntKind.u64.bits))))) (2 ^ (min 32 IntKind.u64.bits))) + (1 : Int))))), (IntKind.u64.wrap ((IntKind.u64.wrap ((IntKind.u64.wrap ((BitVec.ofInt IntKind.u64.bits (IntKind.u64.wrap ((IntKind.i64.wrap (0 - x0)))) &&& BitVec.ofInt IntKind.u64.bits (4294967295 : Int)).toNat)) * (IntKind.u64.wrap ((BitVec.ofInt IntKind.u64.bits (IntKind.u64.wrap ((IntKind.i64.wrap (0 - x0)))) &&& BitVec.ofInt IntKind.u64.bits (4294967295 : Int)).toNat)))) + (IntKind.u64.wrap ((IntKind.u64.wrap ((IntKind.u64.wrap ((2 : Int) * (IntKind.u64.wrap ((BitVec.ofInt IntKind.u64.bits (IntKind.u64.wrap ((IntKind.i64.wrap (0 - x0)))) &&& BitVec.ofInt IntKind.u64.bits (4294967295 : Int)).toNat)))) * (Int.fdiv (IntKind.u64.wrap ((IntKind.i64.wrap (0 - x0)))) (2 ^ (min 32 IntKind.u64.bits))))) * 2 ^ (min 32 IntKind.u64.bits))))), ()), ()))
 else some (s256.E (((IntKind.u64.wrap ((IntKind.u64.wrap ((Int.fdiv (IntKind.u64.wrap ((IntKind.i64.wrap (0 - x0)))) (2 ^ (min 32 IntKind.u64.bits))) * (Int.fdiv (IntKind.u64.wrap ((IntKind.i64.wrap (0 - x0)))) (2 ^ (min 32 IntKind.u64.bits))))) + (Int.fdiv (IntKind.u64.wrap ((IntKind.u64.wrap ((2 : Int) * (IntKind.u64.wrap ((BitVec.ofInt IntKind.u64.bits (IntKind.u64.wrap ((IntKind.i64.wrap (0 - x0)))) &&& BitVec.ofInt IntKind.u64.bits (4294967295 : Int)).toNat)))) * (Int.fdiv (IntKind.u64.wrap ((IntKind.i64.wrap (0 - x0)))) (2 ^ (min 32 IntKind.u64.bits))))) (2 ^ (min 32 IntKind.u64.bits))))), (IntKind.u64.wrap ((IntKind.u64.wrap ((IntKind.u64.wrap ((BitVec.ofInt IntKind.u64.bits (IntKind.u64.wrap ((IntKind.i64.wrap (0 - x0)))) &&& BitVec.ofInt IntKind.u64.bits (4294967295 : Int)).toNat)) * (IntKind.u64.wrap ((BitVec.ofInt IntKind.u64.bits (IntKind.u64.wrap ((IntKind.i64.wrap (0 - x0)))) &&& BitVec.ofInt IntKind.u64.bits (4294967295 : Int)).toNat)))) + (IntKind.u64.wrap ((IntKind.u64.wrap ((IntKind.u64.wrap ((2 : Int) * (IntKind.u64.wrap ((BitVec.ofInt IntKind.u64.bits (IntKind.u64.wrap ((IntKind.i64.wrap (0 - x0)))) &&& BitVec.ofInt IntKind.u64.bits (4294967295 : Int)).toNat)))) * (Int.fdiv (IntKind.u64.wrap ((IntKind.i64.wrap (0 - x0)))) (2 ^ (min 32 IntKind.u64.bits))))) * 2 ^ (min 32 IntKind.u64.bits))))), ()), ())))
 else (bif (decide ((IntKind.u64.wrap ((IntKind.u64.wrap ((IntKind.u64.wrap ((BitVec.ofInt IntKind.u64.bits (IntKind.u64.wrap (x0)) &&& BitVec.ofInt IntKind.u64.bits (4294967295 : Int)).toNat)) * (IntKind.u64.wrap ((BitVec.ofInt IntKind.u64.bits (IntKind.u64.wrap (x0)) &&& BitVec.ofInt IntKind.u64.bits (4294967295 : Int)).toNat)))) + (IntKind.u64.wrap ((IntKind.u64.wrap ((IntKind.u64.wrap ((2 : Int) * (IntKind.u64.wrap ((BitVec.ofInt IntKind.u64.bits (IntKind.u64.wrap (x0)) &&& BitVec.ofInt IntKind.u64.bits (4294967295 : Int)).toNat)))) * (Int.fdiv (IntKind.u64.wrap (x0)) (2 ^ (min 32 IntKind.u64.bits))))) * 2 ^ (min 32 IntKind.u64.bits))))) < (IntKind.u64.wrap ((IntKind.u64.wrap ((BitVec.ofInt IntKind.u64.bits (IntKind.u64.wrap (x0)) &&& BitVec.ofInt IntKind.u64.bits (4294967295 : Int)).toNat)) * (IntKind.u64.wrap ((BitVec.ofInt IntKind.u64.bits (IntKind.u64.wrap (x0)) &&& BitVec.ofInt IntKind.u64.bits (4294967295 : Int)).toNat)))))) then some (s256.E (((IntKind.u64.wrap ((IntKind.u64.wrap ((Int.fdiv (IntKind.u64.wrap (x0)) (2 ^ (min 32 IntKind.u64.bits))) * (Int.fdiv (IntKind.u64.wrap (x0)) (2 ^ (min 32 IntKind.u64.bits))))) + (IntKind.u64.wrap ((Int.fdiv (IntKind.u64.wrap ((IntKind.u64.wrap ((2 : Int) * (IntKind.u64.wrap ((BitVec.ofInt IntKind.u64.bits (IntKind.u64.wrap (x0)) &&& BitVec.ofInt IntKind.u64.bits (4294967295 : Int)).toNat)))) * (Int.fdiv (IntKind.u64.wrap (x0)) (2 ^ (min 32 IntKind.u64.bits))))) (2 ^ (min 32 IntKind.u64.bits))) + (1 : Int))))), (IntKind.u64.wrap ((IntKind.u64.wrap ((IntKind.u64.wrap ((BitVec.ofInt IntKind.u64.bits (IntKind.u64.wrap (x0)) &&& BitVec.ofInt IntKind.u64.bits (4294967295 : Int)).toNat)) * (IntKind.u64.wrap ((BitVec.ofInt IntKind.u64.bits (IntKind.u64.wrap (x0)) &&& BitVec.ofInt IntKind.u64.bits (4294967295 : Int)).toNat)))) + (IntKind.u64.wrap ((IntKind.u64.wrap ((IntKind.u64.wrap ((2 : Int) * (IntKind.u64.wrap ((BitVec.ofInt IntKind.u64.bits (IntKind.u64.wrap (x0)) &&& BitVec.ofInt IntKind.u64.bits (4294967295 : Int)).toNat)))) * (Int.fdiv (IntKind.u64.wrap (x0)) (2 ^ (min 32 IntKind.u64.bits))))) * 2 ^ (min 32 IntKind.u64.bits))))), ()), ()))
 else some (s256.E (((IntKind.u64.wrap ((IntKind.u64.wrap ((Int.fdiv (IntKind.u64.wrap (x0)) (2 ^ (min 32 IntKind.u64.bits))) * (Int.fdiv (IntKind.u64.wrap (x0)) (2 ^ (min 32 IntKind.u64.bits))))) + (Int.fdiv (IntKind.u64.wrap ((IntKind.u64.wrap ((2 : Int) * (IntKind.u64.wrap ((BitVec.ofInt IntKind.u64.bits (IntKind.u64.wrap (x0)) &&& BitVec.ofInt IntKind.u64.bits (4294967295 : Int)).toNat)))) * (Int.fdiv (IntKind.u64.wrap (x0)) (2 ^ (min 32 IntKind.u64.bits))))) (2 ^ (min 32 IntKind.u64.bits))))), (IntKind.u64.wrap ((IntKind.u64.wrap ((IntKind.u64.wrap ((BitVec.ofInt IntKind.u64.bits (IntKind.u64.wrap (x0)) &&& BitVec.ofInt IntKind.u64.bits (4294967295 : Int)).toNat)) * (IntKind.u64.wrap ((BitVec.ofInt IntKind.u64.bits (IntKind.u64.wrap (x0)) &&& BitVec.ofInt IntKind.u64.bits (4294967295 : Int)).toNat)))) + (IntKind.u64.wrap ((IntKind.u64.wrap ((IntKind.u64.wrap ((2 : Int) * (IntKind.u64.wrap ((BitVec.ofInt IntKind.u64.bits (IntKind.u64.wrap (x0)) &&& BitVec.ofInt IntKind.u64.bits (4294967295 : Int)).toNat)))) * (Int.fdiv (IntKind.u64.wrap (x0)) (2 ^ (min 32 IntKind.u64.bits))))) * 2 ^ (min 32 IntKind.u64.bits))))), ()), ())))) := by kernel_rfl
theorem e213 (x0 : U1) : enterK prog Ms Ls Gs tb Y.om.lab 213 [.agg (tS1.cells x0)] =
  (bif (x0.1 == (0 : Int)) then some (s213.E (((x0.2.1 == (0 : Int)), ()), ()))
 else some (s213.E ((false, ()), ()))) := by kernel_rfl
theorem e214 (x0 : Int) (x1 : U0) : enterK prog Ms Ls Gs tb Y.om.lab 214 [.int .i64 x0, .agg (tS0.cells x1)] =
  k242 x0 (fun r1 => k182 r1.1.1 (fun r2 => k243 r2.1.1.1 x1.1 (fun r3 => k243 r2.1.1.2 x1.2 (fun r4 => k240 r3.1.1 r4.1.1 (fun r5 => some (s214.E ((r5.1.1, ()), ()))))))) := by kernel_rfl
theorem e240 (x0 : U1) (x1 : U1) : enterK prog Ms Ls Gs tb Y.om.lab 240 [.agg (tS1.cells x0), .agg (tS1.cells x1)] =
  L240_2 x0.1 x0.2.1 x0.2.2 x1.1 x1.2.1 x1.2.2 (0 : Int) (0 : Int) (0 : Int) := by kernel_rfl
theorem l240_2 (b767_0 : Int) (b767_1 : Int) (b767_2 : Int) (b1023_0 : Int) (b1023_1 : Int) (b1023_2 : Int) (b1279_0 : Int) (b1279_1 : Int) (b1279_2 : Int) : atK prog Ms Ls Gs tb Y.om.lab 240 (stk prog 240 2) (σ240_2 b767_0 b767_1 b767_2 b1023_0 b1023_1 b1023_2 b1279_0 b1279_1 b1279_2) =
  (bif (decide (b767_2 < b1023_2)) then L240_2 (IntKind.i64.wrap (b767_0 * (2 : Int))) (IntKind.i64.wrap (b767_1 * (2 : Int))) (IntKind.i64.wrap (b767_2 + (1 : Int))) b1023_0 b1023_1 b1023_2 b1279_0 b1279_1 b1279_2
 else L240_10 b767_0 b767_1 b767_2 b1023_0 b1023_1 b1023_2 b1279_0 b1279_1 b1279_2) := by kernel_rfl
theorem l240_10 (b767_0 : Int) (b767_1 : Int) (b767_2 : Int) (b1023_0 : Int) (b1023_1 : Int) (b1023_2 : Int) (b1279_0 : Int) (b1279_1 : Int) (b1279_2 : Int) : atK prog Ms Ls Gs tb Y.om.lab 240 (stk prog 240 10) (σ240_10 b767_0 b767_1 b767_2 b1023_0 b1023_1 b1023_2 b1279_0 b1279_1 b1279_2) =
  (bif (decide (b1023_2 < b767_2)) then L240_10 b767_0 b767_1 b767_2 (IntKind.i64.wrap (b1023_0 * (2 : Int))) (IntKind.i64.wrap (b1023_1 * (2 : Int))) (IntKind.i64.wrap (b1023_2 + (1 : Int))) b1279_0 b1279_1 b1279_2
 else k223 ((IntKind.i64.wrap (b767_0 + b1023_0)), (IntKind.i64.wrap (b767_1 + b1023_1)), b767_2) (fun r1 => some (s240.E ((r1.1.1, ()), ())))) := by kernel_rfl
theorem e223 (x0 : U1) : enterK prog Ms Ls Gs tb Y.om.lab 223 [.agg (tS1.cells x0)] =
  (bif (x0.1 == (0 : Int)) then (bif (x0.2.1 == (0 : Int)) then some (s223.E ((((0 : Int), (0 : Int), (0 : Int)), ()), ()))
 else L223_6 x0.1 x0.2.1 x0.2.2 (0 : Int) (0 : Int) (0 : Int))
 else L223_6 x0.1 x0.2.1 x0.2.2 (0 : Int) (0 : Int) (0 : Int)) := by kernel_rfl
theorem l223_6 (b511_0 : Int) (b511_1 : Int) (b511_2 : Int) (b767_0 : Int) (b767_1 : Int) (b767_2 : Int) : atK prog Ms Ls Gs tb Y.om.lab 223 (stk prog 223 6) (σ223_6 b511_0 b511_1 b511_2 b767_0 b767_1 b767_2) =
  (bif (decide (b511_2 > (0 : Int))) then (bif ((Int.tmod b511_0 (2 : Int)) == (0 : Int)) then (bif ((Int.tmod b511_1 (2 : Int)) == (0 : Int)) then L223_6 (IntKind.i64.wrap (Int.tdiv b511_0 (2 : Int))) (IntKind.i64.wrap (Int.tdiv b511_1 (2 : Int))) (IntKind.i64.wrap (b511_2 - (1 : Int))) b767_0 b767_1 b767_2
 else some (s223.E (((b511_0, b511_1, b511_2), ()), ())))
 else some (s223.E (((b511_0, b511_1, b511_2), ()), ())))
 else some (s223.E (((b511_0, b511_1, b511_2), ()), ()))) := by kernel_rfl
theorem e243 (x0 : U1) (x1 : U1) : enterK prog Ms Ls Gs tb Y.om.lab 243 [.agg (tS1.cells x0), .agg (tS1.cells x1)] =
  k223 ((IntKind.i64.wrap ((IntKind.i64.wrap (x0.1 * x1.1)) + (IntKind.i64.wrap ((IntKind.i64.wrap ((2 : Int) * x0.2.1)) * x1.2.1)))), (IntKind.i64.wrap ((IntKind.i64.wrap (x0.1 * x1.2.1)) + (IntKind.i64.wrap (x0.2.1 * x1.1)))), (IntKind.i64.wrap (x0.2.2 + x1.2.2))) (fun r1 => some (s243.E ((r1.1.1, ()), ()))) := by kernel_rfl
theorem e182 (x0 : U0) : enterK prog Ms Ls Gs tb Y.om.lab 182 [.agg (tS0.cells x0)] =
  k212 x0.1 (fun r1 => k212 x0.2 (fun r2 => some (s182.E (((r1.1.1, r2.1.1), ()), ())))) := by kernel_rfl
theorem e212 (x0 : U1) : enterK prog Ms Ls Gs tb Y.om.lab 212 [.agg (tS1.cells x0)] =
  some (s212.E ((x0, ()), ())) := by kernel_rfl
theorem e242 (x0 : Int) : enterK prog Ms Ls Gs tb Y.om.lab 242 [.int .i64 x0] =
  k145 x0 (fun r1 => (if 0 ≤ (Int.tmod r1.1.1 (8 : Int)) then (if (Int.tmod r1.1.1 (8 : Int)) < (8 : Int) then (if (0 + (Int.tmod r1.1.1 (8 : Int)).toNat) < 8 then (bif (decide (r1.1.1 ≥ (8 : Int))) then some (s242.E (((((IntKind.i64.wrap (0 - (List.getD [(1 : Int), (1 : Int), (1 : Int), (-1 : Int), (0 : Int), (1 : Int), (-1 : Int), (-1 : Int)] (0 + (Int.tmod r1.1.1 (8 : Int)).toNat) (0 : Int)))), (IntKind.i64.wrap (0 - (List.getD [(0 : Int), (0 : Int), (0 : Int), (1 : Int), (0 : Int), (-1 : Int), (0 : Int), (0 : Int)] (0 + (Int.tmod r1.1.1 (8 : Int)).toNat) (0 : Int)))), (0 : Int)), ((IntKind.i64.wrap (0 - (List.getD [(0 : Int), (-1 : Int), (1 : Int), (1 : Int), (1 : Int), (1 : Int), (1 : Int), (-1 : Int)] (0 + (Int.tmod r1.1.1 (8 : Int)).toNat) (0 : Int)))), (IntKind.i64.wrap (0 - (List.getD [(0 : Int), (1 : Int), (0 : Int), (0 : Int), (0 : Int), (0 : Int), (0 : Int), (1 : Int)] (0 + (Int.tmod r1.1.1 (8 : Int)).toNat) (0 : Int)))), (0 : Int))), ()), ()))
 else some (s242.E (((((List.getD [(1 : Int), (1 : Int), (1 : Int), (-1 : Int), (0 : Int), (1 : Int), (-1 : Int), (-1 : Int)] (0 + (Int.tmod r1.1.1 (8 : Int)).toNat) (0 : Int)), (List.getD [(0 : Int), (0 : Int), (0 : Int), (1 : Int), (0 : Int), (-1 : Int), (0 : Int), (0 : Int)] (0 + (Int.tmod r1.1.1 (8 : Int)).toNat) (0 : Int)), (List.getD [(0 : Int), (0 : Int), (0 : Int), (0 : Int), (0 : Int), (0 : Int), (0 : Int), (0 : Int)] (0 + (Int.tmod r1.1.1 (8 : Int)).toNat) (0 : Int))), ((List.getD [(0 : Int), (-1 : Int), (1 : Int), (1 : Int), (1 : Int), (1 : Int), (1 : Int), (-1 : Int)] (0 + (Int.tmod r1.1.1 (8 : Int)).toNat) (0 : Int)), (List.getD [(0 : Int), (1 : Int), (0 : Int), (0 : Int), (0 : Int), (0 : Int), (0 : Int), (1 : Int)] (0 + (Int.tmod r1.1.1 (8 : Int)).toNat) (0 : Int)), (List.getD [(0 : Int), (0 : Int), (0 : Int), (0 : Int), (0 : Int), (0 : Int), (0 : Int), (0 : Int)] (0 + (Int.tmod r1.1.1 (8 : Int)).toNat) (0 : Int)))), ()), ()))) else none) else none) else none)) := by kernel_rfl
theorem e181 (x0 : U0) (x1 : U0) : enterK prog Ms Ls Gs tb Y.om.lab 181 [.agg (tS0.cells x0), .agg (tS0.cells x1)] =
  k211 x0.1 x1.1 (fun r1 => k211 x0.2 x1.2 (fun r2 => some (s181.E (((r1.1.1, r2.1.1), ()), ())))) := by kernel_rfl
theorem e211 (x0 : U1) (x1 : U1) : enterK prog Ms Ls Gs tb Y.om.lab 211 [.agg (tS1.cells x0), .agg (tS1.cells x1)] =
  k241 x1 (fun r1 => k240 x0 r1.1.1 (fun r2 => some (s211.E ((r2.1.1, ()), ())))) := by kernel_rfl
theorem e241 (x0 : U1) : enterK prog Ms Ls Gs tb Y.om.lab 241 [.agg (tS1.cells x0)] =
  some (s241.E ((((IntKind.i64.wrap (0 - x0.1)), (IntKind.i64.wrap (0 - x0.2.1)), x0.2.2), ()), ())) := by kernel_rfl
theorem e144 (x0 : Sl U0) : enterK prog Ms Ls Gs tb Y.om.lab 144 [svl tS0 x0] =
  L144_6 x0 (0 : Int) (Sl.mk 0 (fun k0 => (((0 : Int), (0 : Int), (0 : Int)), ((0 : Int), (0 : Int), (0 : Int))))) := by kernel_rfl
theorem l144_6 (v0 : Sl U0) (v4 : Int) (o1023 : Sl U0) : atK prog Ms Ls Gs tb Y.om.lab 144 (stk prog 144 6) (σ144_6 v0.n (fun k0 => tS0.cells (v0.get k0)) v4 o1023.n (fun k0 => tS0.cells (o1023.get k0))) =
  (bif (decide (v4 < ((v0.n : Nat) : Int))) then (if 0 ≤ v4 then (if v4 < ((v0.n : Nat) : Int) then k182 (v0.get (v4).toNat) (fun r1 => (if (o1023.n + 1) * 48 ≤ maxRow then L144_6 v0 (IntKind.i64.wrap (v4 + (1 : Int))) (Sl.app tS0 o1023 (Sl.lit tS0 [r1.1.1])) else none)) else none) else none)
 else some (s144.E ((o1023, ()), ()))) := by kernel_rfl
theorem e142 (x0 : U0) (x1 : U0) : enterK prog Ms Ls Gs tb Y.om.lab 142 [.agg (tS0.cells x0), .agg (tS0.cells x1)] =
  k179 x0.1 x1.1 (fun r1 => (bif (r1.1.1 != (0 : Int)) then some (s142.E ((r1.1.1, ()), ()))
 else k179 x0.2 x1.2 (fun r2 => some (s142.E ((r2.1.1, ()), ()))))) := by kernel_rfl
theorem e179 (x0 : U1) (x1 : U1) : enterK prog Ms Ls Gs tb Y.om.lab 179 [.agg (tS1.cells x0), .agg (tS1.cells x1)] =
  k212 x0 (fun r1 => k212 x1 (fun r2 => k211 r1.1.1 r2.1.1 (fun r3 => k210 r3.1.1 (fun r4 => some (s179.E ((r4.1.1, ()), ())))))) := by kernel_rfl
theorem e141 (x0 : U0) : enterK prog Ms Ls Gs tb Y.om.lab 141 [.agg (tS0.cells x0)] =
  k134 x0.1 (fun r1 => (bif r1.1.1 then k134 x0.2 (fun r2 => some (s141.E ((r2.1.1, ()), ())))
 else some (s141.E ((false, ()), ())))) := by kernel_rfl
theorem e134 (x0 : U1) : enterK prog Ms Ls Gs tb Y.om.lab 134 [.agg (tS1.cells x0)] =
  k88 x0.1 (-131072 : Int) (131072 : Int) (fun r1 => (bif (!r1.1.1) then some (s134.E ((false, ()), ()))
 else k88 x0.2.1 (-131072 : Int) (131072 : Int) (fun r2 => (bif (!r2.1.1) then some (s134.E ((false, ()), ()))
 else k88 x0.2.2 (0 : Int) (10 : Int) (fun r3 => (bif (!r3.1.1) then some (s134.E ((false, ()), ()))
 else (bif (x0.2.2 == (0 : Int)) then some (s134.E ((true, ()), ()))
 else (bif ((Int.tmod x0.1 (2 : Int)) != (0 : Int)) then some (s134.E ((true, ()), ()))
 else some (s134.E ((((Int.tmod x0.2.1 (2 : Int)) != (0 : Int)), ()), ())))))))))) := by kernel_rfl
theorem e24 (x0 : Sl U0) : enterK prog Ms Ls Gs tb Y.om.lab 24 [svl tS0 x0] =
  (if 0 ≤ ((x0.n : Nat) : Int) then (if ((x0.n : Nat) : Int) ≤ ((x0.n : Nat) : Int) then (if x0.n * 48 ≤ maxRow then L24_6 x0 (0 : Int) (Sl.mk x0.n (fun k0 => (((0 : Int), (0 : Int), (0 : Int)), ((0 : Int), (0 : Int), (0 : Int))))) else none) else none) else none) := by kernel_rfl
theorem l24_6 (v0 : Sl U0) (v4 : Int) (o1023 : Sl U0) : atK prog Ms Ls Gs tb Y.om.lab 24 (stk prog 24 6) (σ24_6 v0.n (fun k0 => tS0.cells (v0.get k0)) v4 o1023.n (fun k0 => tS0.cells (o1023.get k0))) =
  (bif (decide (v4 < ((v0.n : Nat) : Int))) then (if 0 ≤ v4 then (if v4 < ((v0.n : Nat) : Int) then k61 (v0.get (v4).toNat) (fun r1 => (if 0 ≤ v4 then (if v4 < ((o1023.n : Nat) : Int) then (if (0 + (v4).toNat) < o1023.n then L24_6 v0 (IntKind.i64.wrap (v4 + (1 : Int))) (Sl.set tS0 o1023 (0 + (v4).toNat) r1.1.1) else none) else none) else none)) else none) else none)
 else some (s24.E ((o1023, ()), ()))) := by kernel_rfl
theorem e61 (x0 : U0) : enterK prog Ms Ls Gs tb Y.om.lab 61 [.agg (tS0.cells x0)] =
  k91 x0.1 (fun r1 => k91 x0.2 (fun r2 => some (s61.E (((r1.1.1, r2.1.1), ()), ())))) := by kernel_rfl
theorem e91 (x0 : U1) : enterK prog Ms Ls Gs tb Y.om.lab 91 [.agg (tS1.cells x0)] =
  some (s91.E ((x0, ()), ())) := by kernel_rfl
theorem e22 (x0 : Sl U0) (x1 : Int) : enterK prog Ms Ls Gs tb Y.om.lab 22 [svl tS0 x0, .int .i64 x1] =
  (bif (decide ((IntKind.i64.wrap (x1 - ((x0.n : Nat) : Int))) < (0 : Int))) then some (s22.E (((-1 : Int), ()), ()))
 else some (s22.E (((IntKind.i64.wrap (x1 - ((x0.n : Nat) : Int))), ()), ()))) := by kernel_rfl
end Go.Vk.St
end

section
namespace Go.Vk.St
open Go Go.Proofs Go.Vk
set_option linter.unusedVariables false
set_option linter.unusedSimpArgs false
set_option maxRecDepth 100000
theorem q103 (x y : U1) (b : tS1.bd x) (h : tS1.same x y) (k) : k103 x y k = k ((true, ()), ()) := by
  refine of_e (s := s103) (e103 x y) rfl ?_ k
  simp only [h.1, h.2.1, h.2.2, bne_self_eq_false, beq_self_eq_true, Bool.not_true, cond_false, cond_true]
  rfl

theorem q65 (x y : U0) (b : tS0.bd x) (h : tS0.same x y) (k) : k65 x y k = k ((true, ()), ()) := by
  refine of_e (s := s65) (e65 x y) rfl ?_ k
  simp only [q103 _ _ b.1 h.1, q103 _ _ b.2 h.2, bne_self_eq_false, beq_self_eq_true, Bool.not_true, cond_false, cond_true]
  rfl

theorem q27 (x y : Sl U0) (b : (Ty.sl tS0).bd x) (h : (Ty.sl tS0).same x y) (k) : k27 x y k = k ((true, ()), ()) := by
  have hl : L27_8 x y ((0 : Nat) : Int) = some (s27.E ((true, ()), ())) := by
    refine eqLoop (L27_8 x y) x.n _ (fun i hi h' => of_l (l27_8 x y i) ?_) (of_l (l27_8 x y x.n) ?_) x.n 0 (by omega)
    · have hi' : i < y.n := by rw [← h.1]; exact hi
      simp only [Int.ofNat_lt, hi, hi', decide_true, cond_true, Int.natCast_nonneg, if_true, Int.toNat_natCast, q65 _ _ (b.2 i hi) (h.2 i hi), Bool.not_true, bne_self_eq_false, cond_false, wrap_succ hi (Nat.lt_of_le_of_lt b.1 (by decide))]
      exact h'
    · simp only [Int.ofNat_lt, Nat.lt_irrefl, decide_false, cond_false]
  refine of_e (s := s27) (e27 x y) rfl ?_ k
  have e : (((x.n : Nat) : Int) != ((y.n : Nat) : Int)) = false := by rw [h.1]; simp
  rw [e]
  exact hl

theorem q222 (x y : U4) (b : tS4.bd x) (h : tS4.same x y) (k) : k222 x y k = k ((true, ()), ()) := by
  refine of_e (s := s222) (e222 x y) rfl ?_ k
  simp only [q103 _ _ b.2.2.1 h.2.2.1, q103 _ _ b.2.2.2 h.2.2.2, h.1, h.2.1, bne_self_eq_false, beq_self_eq_true, Bool.not_true, cond_false, cond_true]
  rfl

theorem q189 (x y : U3) (b : tS3.bd x) (h : tS3.same x y) (k) : k189 x y k = k ((true, ()), ()) := by
  refine of_e (s := s189) (e189 x y) rfl ?_ k
  simp only [q27 _ _ b.1 h.1, q222 _ _ b.2 h.2, bne_self_eq_false, beq_self_eq_true, Bool.not_true, cond_false, cond_true]
  rfl

theorem q150 (x y : Sl U3) (b : (Ty.sl tS3).bd x) (h : (Ty.sl tS3).same x y) (k) : k150 x y k = k ((true, ()), ()) := by
  have hl : L150_8 x y ((0 : Nat) : Int) = some (s150.E ((true, ()), ())) := by
    refine eqLoop (L150_8 x y) x.n _ (fun i hi h' => of_l (l150_8 x y i) ?_) (of_l (l150_8 x y x.n) ?_) x.n 0 (by omega)
    · have hi' : i < y.n := by rw [← h.1]; exact hi
      simp only [Int.ofNat_lt, hi, hi', decide_true, cond_true, Int.natCast_nonneg, if_true, Int.toNat_natCast, q189 _ _ (b.2 i hi) (h.2 i hi), Bool.not_true, bne_self_eq_false, cond_false, wrap_succ hi (Nat.lt_of_le_of_lt b.1 (by decide))]
      exact h'
    · simp only [Int.ofNat_lt, Nat.lt_irrefl, decide_false, cond_false]
  refine of_e (s := s150) (e150 x y) rfl ?_ k
  have e : (((x.n : Nat) : Int) != ((y.n : Nat) : Int)) = false := by rw [h.1]; simp
  rw [e]
  exact hl

theorem q151 (x y : Sl Int) (b : (Ty.sl tI).bd x) (h : (Ty.sl tI).same x y) (k) : k151 x y k = k ((true, ()), ()) := by
  have hl : L151_8 x y ((0 : Nat) : Int) = some (s151.E ((true, ()), ())) := by
    refine eqLoop (L151_8 x y) x.n _ (fun i hi h' => of_l (l151_8 x y i) ?_) (of_l (l151_8 x y x.n) ?_) x.n 0 (by omega)
    · have hi' : i < y.n := by rw [← h.1]; exact hi
      simp only [Int.ofNat_lt, hi, hi', decide_true, cond_true, Int.natCast_nonneg, if_true, Int.toNat_natCast, show x.get i = y.get i from h.2 i hi, Bool.not_true, bne_self_eq_false, cond_false, wrap_succ hi (Nat.lt_of_le_of_lt b.1 (by decide))]
      exact h'
    · simp only [Int.ofNat_lt, Nat.lt_irrefl, decide_false, cond_false]
  refine of_e (s := s151) (e151 x y) rfl ?_ k
  have e : (((x.n : Nat) : Int) != ((y.n : Nat) : Int)) = false := by rw [h.1]; simp
  rw [e]
  exact hl

theorem q101 (x y : U2) (b : tS2.bd x) (h : tS2.same x y) (k) : k101 x y k = k ((true, ()), ()) := by
  refine of_e (s := s101) (e101 x y) rfl ?_ k
  simp only [q27 _ _ b.1 h.1, q150 _ _ b.2.1 h.2.1, q151 _ _ b.2.2 h.2.2, bne_self_eq_false, beq_self_eq_true, Bool.not_true, cond_false, cond_true]
  rfl

theorem q63 (x y : Sl U2) (b : (Ty.sl tS2).bd x) (h : (Ty.sl tS2).same x y) (k) : k63 x y k = k ((true, ()), ()) := by
  have hl : L63_8 x y ((0 : Nat) : Int) = some (s63.E ((true, ()), ())) := by
    refine eqLoop (L63_8 x y) x.n _ (fun i hi h' => of_l (l63_8 x y i) ?_) (of_l (l63_8 x y x.n) ?_) x.n 0 (by omega)
    · have hi' : i < y.n := by rw [← h.1]; exact hi
      simp only [Int.ofNat_lt, hi, hi', decide_true, cond_true, Int.natCast_nonneg, if_true, Int.toNat_natCast, q101 _ _ (b.2 i hi) (h.2 i hi), Bool.not_true, bne_self_eq_false, cond_false, wrap_succ hi (Nat.lt_of_le_of_lt b.1 (by decide))]
      exact h'
    · simp only [Int.ofNat_lt, Nat.lt_irrefl, decide_false, cond_false]
  refine of_e (s := s63) (e63 x y) rfl ?_ k
  have e : (((x.n : Nat) : Int) != ((y.n : Nat) : Int)) = false := by rw [h.1]; simp
  rw [e]
  exact hl

theorem q96 (x y : U6) (b : tS6.bd x) (h : tS6.same x y) (k) : k96 x y k = k ((true, ()), ()) := by
  refine of_e (s := s96) (e96 x y) rfl ?_ k
  simp only [q103 _ _ b.2 h.2, h.1, bne_self_eq_false, beq_self_eq_true, Bool.not_true, cond_false, cond_true]
  rfl

theorem q102 (x y : U5) (b : tS5.bd x) (h : tS5.same x y) (k) : k102 x y k = k ((true, ()), ()) := by
  refine of_e (s := s102) (e102 x y) rfl ?_ k
  simp only [q96 _ _ b.2 h.2, h.1, bne_self_eq_false, beq_self_eq_true, Bool.not_true, cond_false, cond_true]
  rfl

theorem q64 (x y : Sl U5) (b : (Ty.sl tS5).bd x) (h : (Ty.sl tS5).same x y) (k) : k64 x y k = k ((true, ()), ()) := by
  have hl : L64_8 x y ((0 : Nat) : Int) = some (s64.E ((true, ()), ())) := by
    refine eqLoop (L64_8 x y) x.n _ (fun i hi h' => of_l (l64_8 x y i) ?_) (of_l (l64_8 x y x.n) ?_) x.n 0 (by omega)
    · have hi' : i < y.n := by rw [← h.1]; exact hi
      simp only [Int.ofNat_lt, hi, hi', decide_true, cond_true, Int.natCast_nonneg, if_true, Int.toNat_natCast, q102 _ _ (b.2 i hi) (h.2 i hi), Bool.not_true, bne_self_eq_false, cond_false, wrap_succ hi (Nat.lt_of_le_of_lt b.1 (by decide))]
      exact h'
    · simp only [Int.ofNat_lt, Nat.lt_irrefl, decide_false, cond_false]
  refine of_e (s := s64) (e64 x y) rfl ?_ k
  have e : (((x.n : Nat) : Int) != ((y.n : Nat) : Int)) = false := by rw [h.1]; simp
  rw [e]
  exact hl

theorem q26 (x y : U7) (b : tS7.bd x) (h : tS7.same x y) (k) : k26 x y k = k ((true, ()), ()) := by
  refine of_e (s := s26) (e26 x y) rfl ?_ k
  simp only [q63 _ _ b.1 h.1, q64 _ _ b.2 h.2, bne_self_eq_false, beq_self_eq_true, Bool.not_true, cond_false, cond_true]
  rfl

end Go.Vk.St
end

section
namespace Go.Vk.St
open Go Go.Proofs Go.Vk
set_option linter.unusedVariables false
set_option linter.unusedSimpArgs false
set_option maxRecDepth 100000
theorem m28 (x : Sl U0) (b : (Ty.sl tS0).bd x) (k : Nat) (hk : k + (Ty.sl tS0).cnt x < 4611686018427387904) : ∃ r : Sl U0, r.n = x.n ∧ (∀ c, k28 x k c = c ((((k + (Ty.sl tS0).cnt x : Nat) : Int), ()), (r, ()))) ∧ ∀ c, k106 r k c = c ((((k + (Ty.sl tS0).cnt x : Nat) : Int), ()), ()) := by
  have hn := b.1
  have step : ∀ (i k : Nat) (o : Sl U0), o.n = x.n → i < x.n → (tS0).bd (o.get i) → k + (tS0).cnt (o.get i) < 4611686018427387904 → ∃ y : U0, (∀ R, L28_4 ((k + (tS0).cnt (o.get i) : Nat) : Int) ((i + 1 : Nat) : Int) (Sl.set tS0 o i y) = some R → L28_4 k i o = some R) ∧
      (∀ o' : Sl U0, o'.n = x.n → o'.get i = y → ∀ R, L106_4 o' ((k + (tS0).cnt (o.get i) : Nat) : Int) ((i + 1 : Nat) : Int) = some R → L106_4 o' k i = some R) := by
    intro i k o ho hi hb hk
    have hio : i < o.n := by rw [ho]; exact hi
    change k + ((1 + (1 + 1)) + (1 + (1 + 1))) < _ at hk
    have e : k + (tS0).cnt (o.get i) = k + 1 + 1 + 1 + 1 + 1 + 1 := by change k + ((1 + (1 + 1)) + (1 + (1 + 1))) = _; omega
    refine ⟨?X, fun R h => ?a, fun o' hn' he R h => ?b⟩
    case a =>
      rw [e] at h
      refine of_l (l28_4 _ _ _) ?_
      simp (disch := omega) only [Int.ofNat_lt, hi, hio, decide_true, cond_true, Int.natCast_nonneg, if_true, Int.toNat_natCast, Nat.zero_add, wrap_add1, Sl.set_n, Sl.set_self, Sl.set_set]
      refine of_l (l28_11 _ _ _) ?_
      simp (disch := omega) only [Int.ofNat_lt, hi, hio, decide_true, cond_true, Int.natCast_nonneg, if_true, Int.toNat_natCast, Nat.zero_add, wrap_add1, Sl.set_n, Sl.set_self, Sl.set_set]
      refine of_l (l28_15 _ _ _) ?_
      simp (disch := omega) only [Int.ofNat_lt, hi, hio, decide_true, cond_true, Int.natCast_nonneg, if_true, Int.toNat_natCast, Nat.zero_add, wrap_add1, Sl.set_n, Sl.set_self, Sl.set_set]
      refine of_l (l28_19 _ _ _) ?_
      simp (disch := omega) only [Int.ofNat_lt, hi, hio, decide_true, cond_true, Int.natCast_nonneg, if_true, Int.toNat_natCast, Nat.zero_add, wrap_add1, Sl.set_n, Sl.set_self, Sl.set_set]
      refine of_l (l28_23 _ _ _) ?_
      simp (disch := omega) only [Int.ofNat_lt, hi, hio, decide_true, cond_true, Int.natCast_nonneg, if_true, Int.toNat_natCast, Nat.zero_add, wrap_add1, Sl.set_n, Sl.set_self, Sl.set_set]
      refine of_l (l28_27 _ _ _) ?_
      simp (disch := omega) only [Int.ofNat_lt, hi, hio, decide_true, cond_true, Int.natCast_nonneg, if_true, Int.toNat_natCast, Nat.zero_add, wrap_add1, Sl.set_n, Sl.set_self, Sl.set_set]
      refine of_l (l28_31 _ _ _) ?_
      simp (disch := omega) only [Int.ofNat_lt, hi, hio, decide_true, cond_true, Int.natCast_nonneg, if_true, Int.toNat_natCast, Nat.zero_add, wrap_add1, Sl.set_n, Sl.set_self, Sl.set_set]
      exact h
    case b =>
      rw [e] at h
      have hio' : i < o'.n := by rw [hn']; exact hi
      refine of_l (l106_4 _ _ _) ?_
      simp (disch := omega) only [Int.ofNat_lt, hio', decide_true, cond_true, Int.natCast_nonneg, if_true, Int.toNat_natCast, he, wrap_add1, bne_self_eq_false, beq_self_eq_true, Bool.not_true, cond_false, natNeg, decide_false]
      exact h
  obtain ⟨r, r1, r2, r3⟩ := markLoop (e := tS0) L28_4 (fun o k i => L106_4 o k i) (fun k o => s28.E ((k, ()), (o, ()))) (fun k => s106.E ((k, ()), ())) x.n step
    (fun k o ho => of_l (l28_4 _ _ _) (by simp only [Int.ofNat_lt, ho, Nat.lt_irrefl, decide_false, cond_false]))
    (fun k o ho => of_l (l106_4 _ _ _) (by simp only [Int.ofNat_lt, ho, Nat.lt_irrefl, decide_false, cond_false])) k x.n 0 k x (by omega) rfl (fun j _ hj => b.2 j hj) hk (fun _ _ _ _ h => h)
  exact ⟨r, r1, fun c => of_e (s := s28) (e28 x k) rfl r2 c, fun c => of_e (s := s106) (e106 r k) rfl r3 c⟩

theorem m104 (x : Sl U3) (b : (Ty.sl tS3).bd x) (k : Nat) (hk : k + (Ty.sl tS3).cnt x < 4611686018427387904) : ∃ r : Sl U3, r.n = x.n ∧ (∀ c, k104 x k c = c ((((k + (Ty.sl tS3).cnt x : Nat) : Int), ()), (r, ()))) ∧ ∀ c, k107 r k c = c ((((k + (Ty.sl tS3).cnt x : Nat) : Int), ()), ()) := by
  have hn := b.1
  have step : ∀ (i k : Nat) (o : Sl U3), o.n = x.n → i < x.n → (tS3).bd (o.get i) → k + (tS3).cnt (o.get i) < 4611686018427387904 → ∃ y : U3, (∀ R, L104_4 ((k + (tS3).cnt (o.get i) : Nat) : Int) ((i + 1 : Nat) : Int) (Sl.set tS3 o i y) = some R → L104_4 k i o = some R) ∧
      (∀ o' : Sl U3, o'.n = x.n → o'.get i = y → ∀ R, L107_4 o' ((k + (tS3).cnt (o.get i) : Nat) : Int) ((i + 1 : Nat) : Int) = some R → L107_4 o' k i = some R) := by
    intro i k o ho hi hb hk
    have hio : i < o.n := by rw [ho]; exact hi
    change k + ((Ty.sl tS0).cnt (o.get i).1 + (1 + (1 + ((1 + (1 + 1)) + (1 + (1 + 1)))))) < _ at hk
    obtain ⟨r1, n1, a1, b1⟩ := m28 (o.get i).1 hb.1 (k) (by omega)
    have e : k + (tS3).cnt (o.get i) = k + (Ty.sl tS0).cnt (o.get i).1 + 1 + 1 + 1 + 1 + 1 + 1 + 1 + 1 := by change k + ((Ty.sl tS0).cnt (o.get i).1 + (1 + (1 + ((1 + (1 + 1)) + (1 + (1 + 1)))))) = _; omega
    refine ⟨?X, fun R h => ?a, fun o' hn' he R h => ?b⟩
    case a =>
      rw [e] at h
      refine of_l (l104_4 _ _ _) ?_
      simp (disch := omega) only [Int.ofNat_lt, hi, hio, decide_true, cond_true, Int.natCast_nonneg, if_true, Int.toNat_natCast, Nat.zero_add, wrap_add1, Sl.set_n, Sl.set_self, Sl.set_set, a1]
      refine of_l (l104_11 _ _ _) ?_
      simp (disch := omega) only [Int.ofNat_lt, hi, hio, decide_true, cond_true, Int.natCast_nonneg, if_true, Int.toNat_natCast, Nat.zero_add, wrap_add1, Sl.set_n, Sl.set_self, Sl.set_set, a1]
      refine of_l (l104_13 _ _ _) ?_
      simp (disch := omega) only [Int.ofNat_lt, hi, hio, decide_true, cond_true, Int.natCast_nonneg, if_true, Int.toNat_natCast, Nat.zero_add, wrap_add1, Sl.set_n, Sl.set_self, Sl.set_set, a1]
      refine of_l (l104_17 _ _ _) ?_
      simp (disch := omega) only [Int.ofNat_lt, hi, hio, decide_true, cond_true, Int.natCast_nonneg, if_true, Int.toNat_natCast, Nat.zero_add, wrap_add1, Sl.set_n, Sl.set_self, Sl.set_set, a1]
      refine of_l (l104_21 _ _ _) ?_
      simp (disch := omega) only [Int.ofNat_lt, hi, hio, decide_true, cond_true, Int.natCast_nonneg, if_true, Int.toNat_natCast, Nat.zero_add, wrap_add1, Sl.set_n, Sl.set_self, Sl.set_set, a1]
      refine of_l (l104_25 _ _ _) ?_
      simp (disch := omega) only [Int.ofNat_lt, hi, hio, decide_true, cond_true, Int.natCast_nonneg, if_true, Int.toNat_natCast, Nat.zero_add, wrap_add1, Sl.set_n, Sl.set_self, Sl.set_set, a1]
      refine of_l (l104_29 _ _ _) ?_
      simp (disch := omega) only [Int.ofNat_lt, hi, hio, decide_true, cond_true, Int.natCast_nonneg, if_true, Int.toNat_natCast, Nat.zero_add, wrap_add1, Sl.set_n, Sl.set_self, Sl.set_set, a1]
      refine of_l (l104_33 _ _ _) ?_
      simp (disch := omega) only [Int.ofNat_lt, hi, hio, decide_true, cond_true, Int.natCast_nonneg, if_true, Int.toNat_natCast, Nat.zero_add, wrap_add1, Sl.set_n, Sl.set_self, Sl.set_set, a1]
      refine of_l (l104_37 _ _ _) ?_
      simp (disch := omega) only [Int.ofNat_lt, hi, hio, decide_true, cond_true, Int.natCast_nonneg, if_true, Int.toNat_natCast, Nat.zero_add, wrap_add1, Sl.set_n, Sl.set_self, Sl.set_set, a1]
      refine of_l (l104_41 _ _ _) ?_
      simp (disch := omega) only [Int.ofNat_lt, hi, hio, decide_true, cond_true, Int.natCast_nonneg, if_true, Int.toNat_natCast, Nat.zero_add, wrap_add1, Sl.set_n, Sl.set_self, Sl.set_set, a1]
      exact h
    case b =>
      rw [e] at h
      have hio' : i < o'.n := by rw [hn']; exact hi
      refine of_l (l107_4 _ _ _) ?_
      simp (disch := omega) only [Int.ofNat_lt, hio', decide_true, cond_true, Int.natCast_nonneg, if_true, Int.toNat_natCast, he, wrap_add1, bne_self_eq_false, beq_self_eq_true, Bool.not_true, cond_false, natNeg, decide_false, b1]
      exact h
  obtain ⟨r, r1, r2, r3⟩ := markLoop (e := tS3) L104_4 (fun o k i => L107_4 o k i) (fun k o => s104.E ((k, ()), (o, ()))) (fun k => s107.E ((k, ()), ())) x.n step
    (fun k o ho => of_l (l104_4 _ _ _) (by simp only [Int.ofNat_lt, ho, Nat.lt_irrefl, decide_false, cond_false]))
    (fun k o ho => of_l (l107_4 _ _ _) (by simp only [Int.ofNat_lt, ho, Nat.lt_irrefl, decide_false, cond_false])) k x.n 0 k x (by omega) rfl (fun j _ hj => b.2 j hj) hk (fun _ _ _ _ h => h)
  exact ⟨r, r1, fun c => of_e (s := s104) (e104 x k) rfl r2 c, fun c => of_e (s := s107) (e107 r k) rfl r3 c⟩

theorem m105 (x : Sl Int) (b : (Ty.sl tI).bd x) (k : Nat) (hk : k + (Ty.sl tI).cnt x < 4611686018427387904) : ∃ r : Sl Int, r.n = x.n ∧ (∀ c, k105 x k c = c ((((k + (Ty.sl tI).cnt x : Nat) : Int), ()), (r, ()))) ∧ ∀ c, k108 r k c = c ((((k + (Ty.sl tI).cnt x : Nat) : Int), ()), ()) := by
  have hn := b.1
  have step : ∀ (i k : Nat) (o : Sl Int), o.n = x.n → i < x.n → (tI).bd (o.get i) → k + (tI).cnt (o.get i) < 4611686018427387904 → ∃ y : Int, (∀ R, L105_4 ((k + (tI).cnt (o.get i) : Nat) : Int) ((i + 1 : Nat) : Int) (Sl.set tI o i y) = some R → L105_4 k i o = some R) ∧
      (∀ o' : Sl Int, o'.n = x.n → o'.get i = y → ∀ R, L108_4 o' ((k + (tI).cnt (o.get i) : Nat) : Int) ((i + 1 : Nat) : Int) = some R → L108_4 o' k i = some R) := by
    intro i k o ho hi hb hk
    have hio : i < o.n := by rw [ho]; exact hi
    change k + 1 < _ at hk
    have e : k + (tI).cnt (o.get i) = k + 1 := by change k + 1 = _; omega
    refine ⟨?X, fun R h => ?a, fun o' hn' he R h => ?b⟩
    case a =>
      rw [e] at h
      refine of_l (l105_4 _ _ _) ?_
      simp (disch := omega) only [Int.ofNat_lt, hi, hio, decide_true, cond_true, Int.natCast_nonneg, if_true, Int.toNat_natCast, Nat.zero_add, wrap_add1, Sl.set_n, Sl.set_self, Sl.set_set]
      exact h
    case b =>
      rw [e] at h
      have hio' : i < o'.n := by rw [hn']; exact hi
      refine of_l (l108_4 _ _ _) ?_
      simp (disch := omega) only [Int.ofNat_lt, hio', decide_true, cond_true, Int.natCast_nonneg, if_true, Int.toNat_natCast, he, wrap_add1, bne_self_eq_false, beq_self_eq_true, Bool.not_true, cond_false, natNeg, decide_false]
      exact h
  obtain ⟨r, r1, r2, r3⟩ := markLoop (e := tI) L105_4 (fun o k i => L108_4 o k i) (fun k o => s105.E ((k, ()), (o, ()))) (fun k => s108.E ((k, ()), ())) x.n step
    (fun k o ho => of_l (l105_4 _ _ _) (by simp only [Int.ofNat_lt, ho, Nat.lt_irrefl, decide_false, cond_false]))
    (fun k o ho => of_l (l108_4 _ _ _) (by simp only [Int.ofNat_lt, ho, Nat.lt_irrefl, decide_false, cond_false])) k x.n 0 k x (by omega) rfl (fun j _ hj => b.2 j hj) hk (fun _ _ _ _ h => h)
  exact ⟨r, r1, fun c => of_e (s := s105) (e105 x k) rfl r2 c, fun c => of_e (s := s108) (e108 r k) rfl r3 c⟩

theorem m66 (x : Sl U2) (b : (Ty.sl tS2).bd x) (k : Nat) (hk : k + (Ty.sl tS2).cnt x < 4611686018427387904) : ∃ r : Sl U2, r.n = x.n ∧ (∀ c, k66 x k c = c ((((k + (Ty.sl tS2).cnt x : Nat) : Int), ()), (r, ()))) ∧ ∀ c, k68 r k c = c ((((k + (Ty.sl tS2).cnt x : Nat) : Int), ()), ()) := by
  have hn := b.1
  have step : ∀ (i k : Nat) (o : Sl U2), o.n = x.n → i < x.n → (tS2).bd (o.get i) → k + (tS2).cnt (o.get i) < 4611686018427387904 → ∃ y : U2, (∀ R, L66_4 ((k + (tS2).cnt (o.get i) : Nat) : Int) ((i + 1 : Nat) : Int) (Sl.set tS2 o i y) = some R → L66_4 k i o = some R) ∧
      (∀ o' : Sl U2, o'.n = x.n → o'.get i = y → ∀ R, L68_4 o' ((k + (tS2).cnt (o.get i) : Nat) : Int) ((i + 1 : Nat) : Int) = some R → L68_4 o' k i = some R) := by
    intro i k o ho hi hb hk
    have hio : i < o.n := by rw [ho]; exact hi
    change k + ((Ty.sl tS0).cnt (o.get i).1 + ((Ty.sl tS3).cnt (o.get i).2.1 + (Ty.sl tI).cnt (o.get i).2.2)) < _ at hk
    obtain ⟨r1, n1, a1, b1⟩ := m28 (o.get i).1 hb.1 (k) (by omega)
    obtain ⟨r2, n2, a2, b2⟩ := m104 (o.get i).2.1 hb.2.1 (k + (Ty.sl tS0).cnt (o.get i).1) (by omega)
    obtain ⟨r3, n3, a3, b3⟩ := m105 (o.get i).2.2 hb.2.2 (k + (Ty.sl tS0).cnt (o.get i).1 + (Ty.sl tS3).cnt (o.get i).2.1) (by omega)
    have e : k + (tS2).cnt (o.get i) = k + (Ty.sl tS0).cnt (o.get i).1 + (Ty.sl tS3).cnt (o.get i).2.1 + (Ty.sl tI).cnt (o.get i).2.2 := by change k + ((Ty.sl tS0).cnt (o.get i).1 + ((Ty.sl tS3).cnt (o.get i).2.1 + (Ty.sl tI).cnt (o.get i).2.2)) = _; omega
    refine ⟨?X, fun R h => ?a, fun o' hn' he R h => ?b⟩
    case a =>
      rw [e] at h
      refine of_l (l66_4 _ _ _) ?_
      simp (disch := omega) only [Int.ofNat_lt, hi, hio, decide_true, cond_true, Int.natCast_nonneg, if_true, Int.toNat_natCast, Nat.zero_add, wrap_add1, Sl.set_n, Sl.set_self, Sl.set_set, a1, a2, a3]
      refine of_l (l66_11 _ _ _) ?_
      simp (disch := omega) only [Int.ofNat_lt, hi, hio, decide_true, cond_true, Int.natCast_nonneg, if_true, Int.toNat_natCast, Nat.zero_add, wrap_add1, Sl.set_n, Sl.set_self, Sl.set_set, a1, a2, a3]
      refine of_l (l66_13 _ _ _) ?_
      simp (disch := omega) only [Int.ofNat_lt, hi, hio, decide_true, cond_true, Int.natCast_nonneg, if_true, Int.toNat_natCast, Nat.zero_add, wrap_add1, Sl.set_n, Sl.set_self, Sl.set_set, a1, a2, a3]
      exact h
    case b =>
      rw [e] at h
      have hio' : i < o'.n := by rw [hn']; exact hi
      refine of_l (l68_4 _ _ _) ?_
      simp (disch := omega) only [Int.ofNat_lt, hio', decide_true, cond_true, Int.natCast_nonneg, if_true, Int.toNat_natCast, he, wrap_add1, bne_self_eq_false, beq_self_eq_true, Bool.not_true, cond_false, natNeg, decide_false, b1, b2, b3]
      exact h
  obtain ⟨r, r1, r2, r3⟩ := markLoop (e := tS2) L66_4 (fun o k i => L68_4 o k i) (fun k o => s66.E ((k, ()), (o, ()))) (fun k => s68.E ((k, ()), ())) x.n step
    (fun k o ho => of_l (l66_4 _ _ _) (by simp only [Int.ofNat_lt, ho, Nat.lt_irrefl, decide_false, cond_false]))
    (fun k o ho => of_l (l68_4 _ _ _) (by simp only [Int.ofNat_lt, ho, Nat.lt_irrefl, decide_false, cond_false])) k x.n 0 k x (by omega) rfl (fun j _ hj => b.2 j hj) hk (fun _ _ _ _ h => h)
  exact ⟨r, r1, fun c => of_e (s := s66) (e66 x k) rfl r2 c, fun c => of_e (s := s68) (e68 r k) rfl r3 c⟩

end Go.Vk.St
end

section
namespace Go.Vk.St
open Go Go.Proofs Go.Vk
set_option linter.unusedVariables false
set_option linter.unusedSimpArgs false
set_option maxRecDepth 100000
theorem t91 (x : U1) (b : tS1.bd x) : ∃ r : U1, tS1.same r x ∧ ∀ c, k91 x c = c ((r, ()), ()) := by
  exact ⟨x, Ty.same_refl tS1 x, fun c => of_e (s := s91) (e91 x) rfl rfl c⟩

theorem t61 (x : U0) (b : tS0.bd x) : ∃ r : U0, tS0.same r x ∧ ∀ c, k61 x c = c ((r, ()), ()) := by
  obtain ⟨r0, h0, c0⟩ := t91 x.1 b.1
  obtain ⟨r1, h1, c1⟩ := t91 x.2 b.2
  exact ⟨_, ⟨h0, h1⟩, fun c => of_e (s := s61) (e61 x) rfl (by first | rfl | (simp only [c0, c1]; rfl)) c⟩

theorem t24 (x : Sl U0) (b : (Ty.sl tS0).bd x) : ∃ r : Sl U0, (Ty.sl tS0).same r x ∧ ∀ c, k24 x c = c ((r, ()), ()) := by
  have hn := b.1
  have step : ∀ (i : Nat) (o : Sl U0), o.n = x.n → i < x.n → ∃ y : U0, tS0.same y (x.get i) ∧ ∀ ret, L24_6 x ((i + 1 : Nat) : Int) (Sl.set tS0 o i y) = some ret → L24_6 x i o = some ret := by
    intro i o ho hi
    have hio : i < o.n := by rw [ho]; exact hi
    obtain ⟨y, hy, cy⟩ := t61 (x.get i) (b.2 i hi)
    refine ⟨y, hy, fun ret h => of_l (l24_6 _ _ _) ?_⟩
    simp (disch := omega) only [Int.ofNat_lt, hi, hio, decide_true, cond_true, Int.natCast_nonneg, if_true, Int.toNat_natCast, Nat.zero_add, wrap_add1, cy]
    exact h
  obtain ⟨r, r1, r2, r3⟩ := toLoop (e := tS0) (L24_6 x) (fun o => s24.E ((o, ()), ())) x.n (fun i y => tS0.same y (x.get i)) step
    (fun o ho => of_l (l24_6 _ _ _) (by simp only [Int.ofNat_lt, ho, Nat.lt_irrefl, decide_false, cond_false])) x.n 0 (Sl.mk x.n (fun k0 => (((0 : Int), (0 : Int), (0 : Int)), ((0 : Int), (0 : Int), (0 : Int))))) (by omega) rfl (fun j hj => absurd hj (Nat.not_lt_zero _))
  refine ⟨r, ⟨r1, fun i hi => r2 i (by rw [← r1]; exact hi)⟩, fun c => of_e (s := s24) (e24 x) rfl ?_ c⟩
  have hm : x.n * 48 ≤ maxRow := by unfold maxRow; omega
  simp only [Int.natCast_nonneg, Int.le_refl, hm, if_true]
  exact r3

end Go.Vk.St
end

section
namespace Go.Vk.St
open Go Go.Proofs Go.Vk
set_option linter.unusedVariables false
set_option linter.unusedSimpArgs false
set_option maxRecDepth 100000

/-- What is to be shown of the two functions: they give back the same. -/
def Core : Prop := ∀ x : Sl U0, (Ty.sl tS0).wf x → x.n ≤ 1048576 → ∃ (g w : U7) (code : Int), (∀ c, k25 x c = c ((g, code, ()), ())) ∧ (∀ c, k23 x c = c ((w, code, ()), ())) ∧ tS7.same g w ∧ tS7.bd g ∧ tS7.cnt g < 1073741824 ∧ g.2.n = 0

theorem q22 (x : Sl U0) (l : Int) (k) : k22 x l k = k (((bif decide (IntKind.i64.wrap (l - x.n) < 0) then -1 else IntKind.i64.wrap (l - x.n)), ()), ()) := by
  refine of_e (s := s22) (e22 x l) rfl ?_ k
  cases decide (IntKind.i64.wrap (l - x.n) < 0) <;> rfl
/-- No marks: nothing is written, nothing is read. -/
theorem m67_0 (x : Sl U5) (h : x.n = 0) (k : Nat) : (∀ c, k67 x k c = c (((k : Int), ()), (x, ()))) ∧ ∀ c, k69 x k c = c (((k : Int), ()), ()) := by
  have h1 : L67_4 k ((0 : Nat) : Int) x = some (s67.E ((k, ()), (x, ()))) := of_l (l67_4 _ _ _) (by simp only [Int.ofNat_lt, h, Nat.lt_irrefl, decide_false, cond_false])
  have h2 : L69_4 x k ((0 : Nat) : Int) = some (s69.E ((k, ()), ())) := of_l (l69_4 _ _ _) (by simp only [Int.ofNat_lt, h, Nat.lt_irrefl, decide_false, cond_false])
  exact ⟨fun c => of_e (s := s67) (e67 x k) rfl h1 c, fun c => of_e (s := s69) (e69 x k) rfl h2 c⟩

theorem m29 (g : U7) (b : tS7.bd g) (hc : tS7.cnt g < 1073741824) (hm : g.2.n = 0) : ∃ (m : Nat) (g' : U7), (∀ c, k29 g 1 c = c (((m : Int), ()), (g'.1, g'.2, ()))) ∧ ∀ c, k30 g' 1 c = c (((m : Int), ()), ()) := by
  change (Ty.sl tS2).cnt g.1 + (Ty.sl tS5).cnt g.2 < _ at hc
  obtain ⟨r, r1, r2, r3⟩ := m66 g.1 b.1 1 (by omega)
  obtain ⟨q1, q2⟩ := m67_0 g.2 hm (1 + (Ty.sl tS2).cnt g.1)
  refine ⟨1 + (Ty.sl tS2).cnt g.1, (r, g.2), fun c => of_e (s := s29) (e29 g 1) rfl ?_ c, fun c => of_e (s := s30) (e30 (r, g.2) 1) rfl ?_ c⟩
  · have : ((1 : Int)) = ((1 : Nat) : Int) := rfl
    rw [this]
    simp only [r2, q1]
    rfl
  · have : ((1 : Int)) = ((1 : Nat) : Int) := rfl
    rw [this]
    simp only [r3, q2, natNeg, decide_false, cond_false]
    rfl

theorem law (core : Core) (x : Sl U0) (hw : (Ty.sl tS0).wf x) : Y.om.call 6 [svl tS0 x] = some ⟨[(.bool true, .dp)], []⟩ := by
  refine enterK_ok tabK_good (fun _ _ _ _ h => h) ((e6 x).trans ?_)
  simp only [q22]
  have hwn : x.n ≤ maxLen := hw.1
  unfold maxLen at hwn
  by_cases hn : x.n ≤ 1048576
  · have hneg : decide (IntKind.i64.wrap (1048576 - (x.n : Int)) < 0) = false := by
      rw [wrap64 (by omega) (by omega)]; simp; omega
    have hb : (Ty.sl tS0).bd x := ⟨by omega, fun i hi => ⟨⟨trivial, trivial, trivial⟩, trivial, trivial, trivial⟩⟩
    obtain ⟨r, hs, c24⟩ := t24 x hb
    have hrw : (Ty.sl tS0).wf r := ⟨by rw [hs.1]; exact hw.1, fun i hi => by
      have e := hs.2 i hi
      have ex : r.get i = x.get i := Prod.ext (Prod.ext e.1.1 (Prod.ext e.1.2.1 e.1.2.2)) (Prod.ext e.2.1 (Prod.ext e.2.2.1 e.2.2.2))
      rw [ex]; exact hw.2 i (by rw [← hs.1]; exact hi)⟩
    have hrb : (Ty.sl tS0).bd r := Ty.bd_same _ _ _ (Ty.same_symm _ _ _ hs) hb
    have hrn : r.n ≤ 1048576 := by rw [hs.1]; exact hn
    obtain ⟨g, w, code, h25, h23, hgw, hgb, hgc, hg0⟩ := core r hrw hrn
    obtain ⟨m, g', h29, h30⟩ := m29 g hgb hgc hg0
    obtain ⟨y, y1, y2, _⟩ := m28 r hrb 1 (by
      have : sumF (fun i => tS0.cnt (r.get i)) 0 r.n ≤ r.n * 6 := sumF_le r.n 0 fun j _ _ => Nat.le_refl 6
      show 1 + sumF _ 0 r.n < _; omega)
    have hy : ∀ c, k28 r 1 c = c ((((1 + (Ty.sl tS0).cnt r : Nat) : Int), ()), (y, ())) := y2
    have h26 : ∀ c, k26 g w c = c ((true, ()), ()) := q26 g w hgb hgw
    have h27 : ∀ c, k27 r r c = c ((true, ()), ()) := q27 r r hrb (Ty.same_refl _ _)
    have he : g' = (g'.1, g'.2) := rfl
    simp only [hneg, cond_false, c24, h23, h25, h26, h27, hy, h29, h30, Bool.not_true, bne_self_eq_false, natNeg, decide_false]
    rfl
  · have hneg : decide (IntKind.i64.wrap (1048576 - (x.n : Int)) < 0) = true := by
      rw [wrap64 (by omega) (by omega)]; simp; omega
    simp only [hneg, cond_true]
    rfl
end Go.Vk.St
end

section
namespace Go.Vk.St
open Go Go.Proofs Go.Vk
set_option linter.unusedVariables false
set_option linter.unusedSimpArgs false
set_option maxRecDepth 100000

/-- The two answers whether corners are a polygon's. -/
def CoreP : Prop := ∀ x : Sl U0, (Ty.sl tS0).wf x → x.n ≤ 1048576 → ∃ b : Bool, (∀ c, k98 x c = c ((b, ()), ())) ∧ (∀ c, k97 x c = c ((b, ()), ())) ∧ (b = true → x.n ≤ 16)

theorem ag_slN {sz : Nat} {fl : Bool} {g g' : Nat → List V} {own : Own} {n : Nat} (hn : n = 0) : AgRet ⟨[(.sl sz fl none none 0 g, own)], []⟩ ⟨[(.sl sz fl none none n g', own)], []⟩ := by
  subst hn; exact ag_sl0
theorem same_app0 (z : Nat → U0) (x : Sl U0) : (Ty.sl tS0).same (Sl.app tS0 (Sl.mk 0 z) x) x := by
  refine ⟨Nat.zero_add _, fun i hi => ?_⟩
  have : (Sl.app tS0 (Sl.mk 0 z) x).get i = x.get i := by
    show tS0.bif (Nat.blt i 0) (z i) (x.get (i - 0)) = x.get i
    rw [Ty.bif_eq, blt_iff]; simp
  rw [this]; exact Ty.same_refl tS0 _
theorem q99 (x : Sl U0) (hn : x.n ≤ 1048576) : ∃ r : Sl U0, (Ty.sl tS0).same r x ∧ ∀ c, k99 x c = c ((r, ()), ()) := by
  have hm : (0 + x.n) * 48 ≤ maxRow := by unfold maxRow; omega
  by_cases h : 0 < x.n
  · refine ⟨Sl.app tS0 (Sl.mk 0 (fun k0 => (((0 : Int), (0 : Int), (0 : Int)), ((0 : Int), (0 : Int), (0 : Int))))) x, same_app0 _ x, fun c => of_e (s := s99) (e99 x) rfl ?_ c⟩
    rw [if_pos h, if_pos hm]; rfl
  · refine ⟨Sl.mk 0 (fun k0 => (((0 : Int), (0 : Int), (0 : Int)), ((0 : Int), (0 : Int), (0 : Int)))), ⟨by show 0 = x.n; omega, fun i hi => absurd hi (Nat.not_lt_zero _)⟩, fun c => of_e (s := s99) (e99 x) rfl ?_ c⟩
    rw [if_neg h, if_pos hm]
    exact both_of rfl rfl (ag_slN (by show 0 + x.n = 0; omega))

theorem same_lit1 {t : Ty} {a b : t.T} (h : t.same a b) : (Ty.sl t).same (Sl.lit t [a]) (Sl.lit t [b]) := by
  refine ⟨rfl, fun i hi => ?_⟩
  have : i = 0 := by have : i < 1 := hi; omega
  subst this
  show t.same (t.sel [a] 0) (t.sel [b] 0)
  rw [Ty.sel_at t [a] (by simp), Ty.sel_at t [b] (by simp)]
  exact h

abbrev idM : U4 := ((0 : Int), false, ((0 : Int), (0 : Int), (0 : Int)), ((0 : Int), (0 : Int), (0 : Int)))
theorem q100 (c) : k100 c = c ((idM, ()), ()) := of_e (s := s100) e100 rfl rfl c

theorem core_of (hp : CoreP) : Core := by
  intro x hw hn
  obtain ⟨b, h98, h97, hb⟩ := hp x hw hn
  obtain ⟨r, hr, c99⟩ := q99 x hn
  have hm : (0 + x.n) * 48 ≤ maxRow := by unfold maxRow; omega
  cases b with
  | false =>
    let st : U2 := ((Sl.mk 0 (fun k0 => (((0 : Int), (0 : Int), (0 : Int)), ((0 : Int), (0 : Int), (0 : Int))))), (Sl.mk 0 (fun k0 => ((Sl.mk 0 (fun k1 => (((0 : Int), (0 : Int), (0 : Int)), ((0 : Int), (0 : Int), (0 : Int))))), ((0 : Int), false, ((0 : Int), (0 : Int), (0 : Int)), ((0 : Int), (0 : Int), (0 : Int)))))), (Sl.mk 0 (fun k0 => (0 : Int))))
    have h62 : ∀ c, k62 x c = c ((st, 1, ()), ()) := fun c => of_e (s := s62) (e62 x) rfl (by simp only [h98, Bool.not_false, cond_true]; rfl) c
    have h60 : ∀ c, k60 x c = c ((st, 1, ()), ()) := fun c => of_e (s := s60) (e60 x) rfl (by simp only [h97, Bool.not_false, cond_true]; rfl) c
    refine ⟨_, _, 1, fun c => of_e (s := s25) (e25 x) rfl (by simp only [h62]; rfl) c, fun c => of_e (s := s23) (e23 x) rfl (by simp only [h60]; rfl) c, ?_⟩
    refine ⟨Ty.same_refl tS7 _, ⟨⟨Nat.zero_le _, fun i hi => absurd hi (Nat.not_lt_zero _)⟩, ⟨Nat.zero_le _, fun i hi => absurd hi (Nat.not_lt_zero _)⟩⟩, by decide, rfl⟩
  | true =>
    have hx := hb rfl
    let app := Sl.app tS0 (Sl.mk 0 (fun k0 => (((0 : Int), (0 : Int), (0 : Int)), ((0 : Int), (0 : Int), (0 : Int))))) x
    let st1 : U2 := (r, (Sl.lit tS3 [(r, idM)]), (Sl.lit tI [(0 : Int)]))
    let st2 : U2 := (app, (Sl.lit tS3 [(app, idM)]), (Sl.lit tI [(0 : Int)]))
    have h62 : ∀ c, k62 x c = c ((st1, 0, ()), ()) := fun c => of_e (s := s62) (e62 x) rfl (by simp only [h98, Bool.not_true, cond_false, c99, q100]; rfl) c
    have h60 : ∀ c, k60 x c = c ((st2, 0, ()), ()) := fun c => of_e (s := s60) (e60 x) rfl (by simp only [h97, Bool.not_true, cond_false, hm, if_true]; rfl) c
    have hs : (Ty.sl tS0).same r app := Ty.same_trans _ _ _ _ hr (Ty.same_symm _ _ _ (same_app0 _ x))
    have h12 : tS2.same st1 st2 := ⟨hs, same_lit1 (t := tS3) ⟨hs, Ty.same_refl tS4 _⟩, Ty.same_refl _ _⟩
    refine ⟨_, _, 0, fun c => of_e (s := s25) (e25 x) rfl (by simp only [h62]; rfl) c, fun c => of_e (s := s23) (e23 x) rfl (by simp only [h60]; rfl) c, ?_⟩
    have hrn : r.n ≤ 16 := by rw [hr.1]; exact hx
    have bd : (Ty.sl tS0).bd r := ⟨by omega, fun i hi => ⟨⟨trivial, trivial, trivial⟩, trivial, trivial, trivial⟩⟩
    have bd2 : tS3.bd (r, idM) := ⟨bd, trivial, trivial, ⟨trivial, trivial, trivial⟩, trivial, trivial, trivial⟩
    have bdl : ∀ {t : Ty} {a : t.T}, t.bd a → (Ty.sl t).bd (Sl.lit t [a]) := fun {t a} h => ⟨by show 1 ≤ _; decide, fun i hi => by
      have : i = 0 := by have : i < 1 := hi; omega
      subst this
      show t.bd (t.sel [a] 0)
      rw [Ty.sel_at t [a] (by simp)]; exact h⟩
    have cl : ∀ {t : Ty} {a : t.T}, (Ty.sl t).cnt (Sl.lit t [a]) = t.cnt a := fun {t a} => by
      show sumF (fun i => t.cnt (t.sel [a] i)) 0 1 = _
      simp only [sumF, Nat.add_zero]
      rw [Ty.sel_at t [a] (by simp)]; rfl
    have cr : (Ty.sl tS0).cnt r ≤ 96 := by
      have : sumF (fun i => tS0.cnt (r.get i)) 0 r.n ≤ r.n * 6 := sumF_le r.n 0 fun j _ _ => Nat.le_refl 6
      show sumF _ 0 r.n ≤ _; omega
    refine ⟨⟨same_lit1 (t := tS2) h12, Ty.same_refl _ _⟩, ⟨bdl (t := tS2) ⟨bd, bdl (t := tS3) bd2, bdl (t := tI) trivial⟩, ⟨Nat.zero_le _, fun i hi => absurd hi (Nat.not_lt_zero _)⟩⟩, ?_, rfl⟩
    show (Ty.sl tS2).cnt (Sl.lit tS2 [st1]) + 0 < _
    rw [cl]
    show (Ty.sl tS0).cnt r + ((Ty.sl tS3).cnt (Sl.lit tS3 [(r, idM)]) + (Ty.sl tI).cnt (Sl.lit tI [(0 : Int)])) + 0 < _
    rw [cl, cl]
    show (Ty.sl tS0).cnt r + ((Ty.sl tS0).cnt r + 8 + 1) + 0 < _
    omega
end Go.Vk.St
end

section
namespace Go.Vk.St
open Go Go.Proofs Go.Vk
set_option linter.unusedVariables false
set_option linter.unusedSimpArgs false
set_option maxRecDepth 100000

theorem and1 (a : Int) : IntKind.i64.wrap (((BitVec.ofInt IntKind.i64.bits a &&& BitVec.ofInt IntKind.i64.bits (1 : Int)).toNat : Nat) : Int) = a % 2 := by
  have h : (BitVec.ofInt IntKind.i64.bits a &&& BitVec.ofInt IntKind.i64.bits (1 : Int)).toNat = (a % 2).toNat := by
    show (BitVec.ofInt 64 a &&& BitVec.ofInt 64 (1 : Int)).toNat = (a % 2).toNat
    rw [BitVec.toNat_and, BitVec.toNat_ofInt, show (BitVec.ofInt 64 (1 : Int)).toNat = 1 from rfl, Nat.and_one_is_mod]
    omega
  rw [h, wrap64 (by omega) (by omega)]
  omega

/-- In lowest form. -/
def lowN : Nat → Int → Int → U1
  | 0, a, b => (a, b, 0)
  | k + 1, a, b => if a % 2 = 0 ∧ b % 2 = 0 then lowN (if a = 0 ∧ b = 0 then 0 else k) (a / 2) (b / 2) else (a, b, (k : Int) + 1)
termination_by k => k
decreasing_by split <;> omega

def I64 (a : Int) : Prop := -9223372036854775808 ≤ a ∧ a < 9223372036854775808

theorem tdiv2 {a : Int} (h : a % 2 = 0) : Int.tdiv a 2 = a / 2 := by
  rw [Int.tdiv_eq_ediv]; split <;> omega

theorem l257ok : ∀ (k : Nat) (a b : Int), I64 a → I64 b → k < 4611686018427387904 → L257_2 a b k 0 0 0 = some (s257.E ((lowN k a b, ()), ()))
  | 0, a, b, ha, hb, hk => of_l (l257_2 a b ((0 : Nat) : Int) 0 0 0) (by unfold lowN; rfl)
  | k + 1, a, b, ha, hb, hk => by
    refine of_l (l257_2 a b ((k + 1 : Nat) : Int) 0 0 0) ?_
    unfold I64 at ha hb
    have hp : decide (((k + 1 : Nat) : Int) > 0) = true := by simp
    rw [lowN]
    simp only [hp, cond_true, and1, beqD]
    by_cases h1 : a % 2 = 0
    · by_cases h2 : b % 2 = 0
      · have e1 : IntKind.i64.wrap (Int.tdiv a 2) = a / 2 := by rw [tdiv2 h1, wrap64 (by omega) (by omega)]
        have e2 : IntKind.i64.wrap (Int.tdiv b 2) = b / 2 := by rw [tdiv2 h2, wrap64 (by omega) (by omega)]
        have e3 : IntKind.i64.wrap (((k + 1 : Nat) : Int) - 1) = (k : Int) := by rw [wrap64 (by omega) (by omega)]; omega
        have ia : I64 (a / 2) := by unfold I64; omega
        have ib : I64 (b / 2) := by unfold I64; omega
        simp only [h1, h2, decide_true, cond_true, e1, e2, e3, and_self, if_true]
        by_cases h3 : a / 2 = 0
        · by_cases h4 : b / 2 = 0
          · have z1 : a = 0 := by omega
            have z2 : b = 0 := by omega
            simp only [h3, h4, decide_true, cond_true, z1, z2, and_self, if_true]
            exact l257ok 0 0 0 (by unfold I64; omega) (by unfold I64; omega) (by omega)
          · have z2 : ¬ b = 0 := by omega
            simp only [h3, h4, decide_true, decide_false, cond_true, cond_false, z2, and_false, if_false]
            exact l257ok k 0 (b / 2) (by unfold I64; omega) ib (by omega)
        · have z1 : ¬ a = 0 := by omega
          simp only [h3, decide_false, cond_false, z1, false_and, if_false]
          exact l257ok k (a / 2) (b / 2) ia ib (by omega)
      · simp only [h1, h2, decide_true, decide_false, cond_true, cond_false, and_false, if_false]; rfl
    · simp only [h1, decide_false, cond_false, false_and, if_false]; rfl
termination_by k => k
decreasing_by all_goals omega

theorem q257 (a b : Int) (k : Nat) (ha : I64 a) (hb : I64 b) (hk : k < 4611686018427387904) (c) : k257 (a, b, (k : Int)) c = c ((lowN k a b, ()), ()) := of_e (s := s257) (e257 (a, b, (k : Int))) rfl (l257ok k a b ha hb hk) c

theorem tmod2 (a : Int) : (Int.tmod a 2 == 0) = decide (a % 2 = 0) := by
  rw [beqD]
  have : (Int.tmod a 2 = 0) ↔ (a % 2 = 0) := by
    rw [Int.tmod_eq_emod]; split <;> omega
  simp only [this]
theorem lowN0 : ∀ k : Nat, lowN k 0 0 = (0, 0, 0)
  | 0 => by rw [lowN]
  | k + 1 => by rw [lowN]; simp only [Int.zero_emod, and_self, if_true, Int.zero_ediv]; exact lowN0 0
theorem l223ok : ∀ (k : Nat) (a b : Int), I64 a → I64 b → ¬ (a = 0 ∧ b = 0) → k < 4611686018427387904 → L223_6 a b k 0 0 0 = some (s223.E ((lowN k a b, ()), ()))
  | 0, a, b, ha, hb, hz, hk => of_l (l223_6 a b ((0 : Nat) : Int) 0 0 0) (by rw [lowN]; rfl)
  | k + 1, a, b, ha, hb, hz, hk => by
    refine of_l (l223_6 a b ((k + 1 : Nat) : Int) 0 0 0) ?_
    unfold I64 at ha hb
    have hp : decide (((k + 1 : Nat) : Int) > 0) = true := by simp
    rw [lowN]
    simp only [hp, cond_true, tmod2]
    by_cases h1 : a % 2 = 0
    · by_cases h2 : b % 2 = 0
      · have e1 : IntKind.i64.wrap (Int.tdiv a 2) = a / 2 := by rw [tdiv2 h1, wrap64 (by omega) (by omega)]
        have e2 : IntKind.i64.wrap (Int.tdiv b 2) = b / 2 := by rw [tdiv2 h2, wrap64 (by omega) (by omega)]
        have e3 : IntKind.i64.wrap (((k + 1 : Nat) : Int) - 1) = (k : Int) := by rw [wrap64 (by omega) (by omega)]; omega
        simp only [h1, h2, decide_true, cond_true, e1, e2, e3, and_self, if_true, if_neg hz]
        exact l223ok k (a / 2) (b / 2) (by unfold I64; omega) (by unfold I64; omega) (by omega) (by omega)
      · simp only [h1, h2, decide_true, decide_false, cond_true, cond_false, and_false, if_false]; rfl
    · simp only [h1, decide_false, cond_false, false_and, if_false]; rfl
theorem q223 (a b : Int) (k : Nat) (ha : I64 a) (hb : I64 b) (hk : k < 4611686018427387904) (c) : k223 (a, b, (k : Int)) c = c ((lowN k a b, ()), ()) := by
  refine of_e (s := s223) (e223 (a, b, (k : Int))) rfl ?_ c
  simp only [beqD]
  by_cases h1 : a = 0
  · by_cases h2 : b = 0
    · subst h1 h2
      simp only [decide_true, cond_true, lowN0]
      rfl
    · simp only [h1, h2, decide_true, decide_false, cond_true, cond_false]
      exact l223ok k 0 b (by unfold I64; omega) hb (by omega) hk
  · simp only [h1, decide_false, cond_false]
    exact l223ok k a b ha hb (by omega) hk
end Go.Vk.St
end

section
namespace Go.Vk.St
open Go Go.Proofs Go.Vk
set_option linter.unusedVariables false
set_option linter.unusedSimpArgs false
set_option maxRecDepth 100000

/-- A number in lowest form, of value (A + B sqrt 2) / 2^s. -/
structure At (s : Nat) (z : U1) (A B : Int) : Prop where
  ex : ∃ k : Nat, z.2.2 = (k : Int) ∧ k ≤ s ∧ A = z.1 * 2 ^ (s - k) ∧ B = z.2.1 * 2 ^ (s - k) ∧ (k = 0 ∨ z.1 % 2 = 1 ∨ z.2.1 % 2 = 1)

theorem pow_split {i k s : Nat} (h1 : i ≤ k) (h2 : k ≤ s) : (2 : Int) ^ (s - i) = 2 ^ (k - i) * 2 ^ (s - k) := by
  rw [← Int.pow_add]; congr 1; omega

theorem lowN_at (s : Nat) : ∀ (k : Nat) (a b : Int), k ≤ s → At s (lowN k a b) (a * 2 ^ (s - k)) (b * 2 ^ (s - k))
  | 0, a, b, h => ⟨0, by rw [lowN]; rfl, Nat.zero_le _, by rw [lowN], by rw [lowN], .inl rfl⟩
  | k + 1, a, b, h => by
    rw [lowN]
    by_cases hz : a % 2 = 0 ∧ b % 2 = 0
    · rw [if_pos hz]
      have hp : (2 : Int) ^ (s - k) = 2 * 2 ^ (s - (k + 1)) := by
        rw [show s - k = (s - (k + 1)) + 1 by omega, Int.pow_succ, Int.mul_comm]
      have ea : a * 2 ^ (s - (k + 1)) = (a / 2) * 2 ^ (s - k) := by
        rw [hp, ← Int.mul_assoc]; congr 1; omega
      have eb : b * 2 ^ (s - (k + 1)) = (b / 2) * 2 ^ (s - k) := by
        rw [hp, ← Int.mul_assoc]; congr 1; omega
      by_cases h0 : a = 0 ∧ b = 0
      · rw [if_pos h0]
        obtain ⟨rfl, rfl⟩ := h0
        have := lowN_at s 0 0 0 (Nat.zero_le _)
        simpa using this
      · rw [if_neg h0, ea, eb]
        exact lowN_at s k (a / 2) (b / 2) (by omega)
    · rw [if_neg hz]
      exact ⟨k + 1, by show (k : Int) + 1 = ((k + 1 : Nat) : Int); omega, h, rfl, rfl, .inr (by show a % 2 = 1 ∨ b % 2 = 1; omega)⟩
termination_by k => k
decreasing_by all_goals omega

theorem abs_le_mul (u : Int) (n : Nat) : u.natAbs ≤ (u * 2 ^ n).natAbs := by
  rw [Int.natAbs_mul]
  have : 0 < ((2 : Int) ^ n).natAbs := by
    rw [Int.natAbs_pow]; exact Nat.pow_pos (by decide)
  exact Nat.le_mul_of_pos_right _ this

theorem i64_abs {a : Int} (h : a.natAbs < 4611686018427387904) : I64 a := by unfold I64; omega
theorem wrap_abs {a : Int} (h : a.natAbs < 4611686018427387904) : IntKind.i64.wrap a = a := wrap64 (by omega) (by omega)

theorem max_sub (x y : Nat) : (if (y : Int) > (x : Int) then (y : Int) else (x : Int)) = ((max x y : Nat) : Int) := by
  split <;> omega
theorem shift_n {m k : Nat} (h : k ≤ m) (hm : m ≤ 60) : IntKind.i64.wrap ((m : Int) - (k : Int)) = ((m - k : Nat) : Int) := by
  rw [wrap64 (by omega) (by omega)]; omega
theorem min_bits {n : Nat} (h : n ≤ 60) : min ((n : Int).toNat) IntKind.i64.bits = n := by
  show min ((n : Int).toNat) 64 = n
  omega

theorem q247 {s : Nat} (hs : s ≤ 60) {x y : U1} {A1 B1 A2 B2 : Int} (hx : At s x A1 B1) (hy : At s y A2 B2) (b1 : A1.natAbs < 2305843009213693952) (b2 : B1.natAbs < 2305843009213693952) (b3 : A2.natAbs < 2305843009213693952) (b4 : B2.natAbs < 2305843009213693952) :
    ∃ z, At s z (A1 + A2) (B1 + B2) ∧ ∀ c, k247 x y c = c ((z, ()), ()) := by
  obtain ⟨i, hi, his, ea, eb, _⟩ := hx
  obtain ⟨j, hj, hjs, fa, fb, _⟩ := hy
  obtain ⟨xa, xb, xk⟩ := x
  obtain ⟨ya, yb, yk⟩ := y
  simp only at hi hj ea eb fa fb
  subst hi hj
  have hm1 : i ≤ max i j := Nat.le_max_left _ _
  have hm2 : j ≤ max i j := Nat.le_max_right _ _
  have hms : max i j ≤ s := Nat.max_le.2 ⟨his, hjs⟩
  generalize hm : max i j = m at *
  have g1 : A1 = (xa * 2 ^ (m - i)) * 2 ^ (s - m) := by rw [ea, pow_split hm1 hms, Int.mul_assoc]
  have g2 : B1 = (xb * 2 ^ (m - i)) * 2 ^ (s - m) := by rw [eb, pow_split hm1 hms, Int.mul_assoc]
  have g3 : A2 = (ya * 2 ^ (m - j)) * 2 ^ (s - m) := by rw [fa, pow_split hm2 hms, Int.mul_assoc]
  have g4 : B2 = (yb * 2 ^ (m - j)) * 2 ^ (s - m) := by rw [fb, pow_split hm2 hms, Int.mul_assoc]
  have n1 := abs_le_mul (xa * 2 ^ (m - i)) (s - m); rw [← g1] at n1
  have n2 := abs_le_mul (xb * 2 ^ (m - i)) (s - m); rw [← g2] at n2
  have n3 := abs_le_mul (ya * 2 ^ (m - j)) (s - m); rw [← g3] at n3
  have n4 := abs_le_mul (yb * 2 ^ (m - j)) (s - m); rw [← g4] at n4
  refine ⟨lowN m (xa * 2 ^ (m - i) + ya * 2 ^ (m - j)) (xb * 2 ^ (m - i) + yb * 2 ^ (m - j)), ?_, fun c => of_e (s := s247) (e247 _ _) rfl ?_ c⟩
  · have := lowN_at s m (xa * 2 ^ (m - i) + ya * 2 ^ (m - j)) (xb * 2 ^ (m - i) + yb * 2 ^ (m - j)) hms
    rwa [Int.add_mul, Int.add_mul, ← g1, ← g2, ← g3, ← g4] at this
  · have s1 := shift_n hm1 (by omega)
    have s2 := shift_n hm2 (by omega)
    have z1 : ¬ (((m - i : Nat) : Int) < 0) := by omega
    have z2 : ¬ (((m - j : Nat) : Int) < 0) := by omega
    simp only [max_sub, hm, s1, s2, if_neg z1, if_neg z2, min_bits (show m - i ≤ 60 by omega), min_bits (show m - j ≤ 60 by omega)]
    generalize xa * 2 ^ (m - i) = u1 at *
    generalize xb * 2 ^ (m - i) = u2 at *
    generalize ya * 2 ^ (m - j) = u3 at *
    generalize yb * 2 ^ (m - j) = u4 at *
    simp only [wrap_abs (a := u1) (by omega), wrap_abs (a := u2) (by omega), wrap_abs (a := u3) (by omega), wrap_abs (a := u4) (by omega), wrap_abs (a := u1 + u3) (by omega), wrap_abs (a := u2 + u4) (by omega)]
    rw [q257 _ _ m (i64_abs (by omega)) (i64_abs (by omega)) (by omega)]
    rfl
end Go.Vk.St
end

section
namespace Go.Vk.St
open Go Go.Proofs Go.Vk
set_option linter.unusedVariables false
set_option linter.unusedSimpArgs false
set_option maxRecDepth 100000

theorem At.neg {s : Nat} {x : U1} {A B : Int} (h : At s x A B) : At s (0 - x.1, 0 - x.2.1, x.2.2) (0 - A) (0 - B) := by
  obtain ⟨k, h1, h2, h3, h4, h5⟩ := h
  refine ⟨k, h1, h2, by rw [h3, Int.sub_mul, Int.zero_mul], by rw [h4, Int.sub_mul, Int.zero_mul], ?_⟩
  show k = 0 ∨ (0 - x.1) % 2 = 1 ∨ (0 - x.2.1) % 2 = 1
  omega
theorem At.abs {s : Nat} {x : U1} {A B : Int} (h : At s x A B) : x.1.natAbs ≤ A.natAbs ∧ x.2.1.natAbs ≤ B.natAbs := by
  obtain ⟨k, h1, h2, h3, h4, h5⟩ := h
  exact ⟨h3 ▸ abs_le_mul _ _, h4 ▸ abs_le_mul _ _⟩
theorem q245 {s : Nat} {x : U1} {A B : Int} (h : At s x A B) (b1 : A.natAbs < 4611686018427387904) (b2 : B.natAbs < 4611686018427387904) : ∃ z, At s z (0 - A) (0 - B) ∧ ∀ c, k245 x c = c ((z, ()), ()) := by
  refine ⟨_, h.neg, fun c => of_e (s := s245) (e245 x) rfl ?_ c⟩
  obtain ⟨h1, h2⟩ := h.abs
  rw [wrap_abs (a := 0 - x.1) (by omega), wrap_abs (a := 0 - x.2.1) (by omega)]
  rfl
theorem q241 {s : Nat} {x : U1} {A B : Int} (h : At s x A B) (b1 : A.natAbs < 4611686018427387904) (b2 : B.natAbs < 4611686018427387904) : ∃ z, At s z (0 - A) (0 - B) ∧ ∀ c, k241 x c = c ((z, ()), ()) := by
  refine ⟨_, h.neg, fun c => of_e (s := s241) (e241 x) rfl ?_ c⟩
  obtain ⟨h1, h2⟩ := h.abs
  rw [wrap_abs (a := 0 - x.1) (by omega), wrap_abs (a := 0 - x.2.1) (by omega)]
  rfl
theorem q244 {s : Nat} (hs : s ≤ 60) {x y : U1} {A1 B1 A2 B2 : Int} (hx : At s x A1 B1) (hy : At s y A2 B2) (b1 : A1.natAbs < 2305843009213693952) (b2 : B1.natAbs < 2305843009213693952) (b3 : A2.natAbs < 2305843009213693952) (b4 : B2.natAbs < 2305843009213693952) :
    ∃ z, At s z (A1 - A2) (B1 - B2) ∧ ∀ c, k244 x y c = c ((z, ()), ()) := by
  obtain ⟨u, hu, cu⟩ := q245 hy (by omega) (by omega)
  obtain ⟨z, hz, cz⟩ := q247 hs hx hu b1 b2 (by omega) (by omega)
  refine ⟨z, ?_, fun c => of_e (s := s244) (e244 x y) rfl (by simp only [cu, cz]; rfl) c⟩
  rwa [show A1 + (0 - A2) = A1 - A2 by omega, show B1 + (0 - B2) = B1 - B2 by omega] at hz

theorem l240a (ya yb : Int) (j : Nat) (hj : j ≤ 60) {R : Ret} : ∀ (d i : Nat) (xa xb : Int), i + d = j → (xa * 2 ^ d).natAbs < 4611686018427387904 → (xb * 2 ^ d).natAbs < 4611686018427387904 →
    L240_10 (xa * 2 ^ d) (xb * 2 ^ d) j ya yb j 0 0 0 = some R → L240_2 xa xb i ya yb j 0 0 0 = some R
  | 0, i, xa, xb, h, b1, b2, hr => by
    have : i = j := by omega
    subst this
    refine of_l (l240_2 _ _ _ _ _ _ _ _ _) ?_
    simp only [Int.ofNat_lt, Nat.lt_irrefl, decide_false, cond_false]
    simpa using hr
  | d + 1, i, xa, xb, h, b1, b2, hr => by
    refine of_l (l240_2 _ _ _ _ _ _ _ _ _) ?_
    have hl : i < j := by omega
    have e1 : xa * 2 ^ (d + 1) = (xa * 2) * 2 ^ d := by rw [Int.pow_succ, Int.mul_comm (2 ^ d) 2, ← Int.mul_assoc]
    have e2 : xb * 2 ^ (d + 1) = (xb * 2) * 2 ^ d := by rw [Int.pow_succ, Int.mul_comm (2 ^ d) 2, ← Int.mul_assoc]
    rw [e1] at b1 hr
    rw [e2] at b2 hr
    have n1 := abs_le_mul (xa * 2) d
    have n2 := abs_le_mul (xb * 2) d
    simp only [Int.ofNat_lt, hl, decide_true, cond_true, wrap_abs (a := xa * 2) (by omega), wrap_abs (a := xb * 2) (by omega), wrap_add1 (show i < 4611686018427387904 by omega)]
    exact l240a ya yb j hj d (i + 1) (xa * 2) (xb * 2) (by omega) b1 b2 hr
theorem l240b (xa xb : Int) (m : Nat) (hm : m ≤ 60) {R : Ret} : ∀ (d j : Nat) (ya yb : Int), j + d = m → (ya * 2 ^ d).natAbs < 4611686018427387904 → (yb * 2 ^ d).natAbs < 4611686018427387904 →
    L240_10 xa xb m (ya * 2 ^ d) (yb * 2 ^ d) m 0 0 0 = some R → L240_10 xa xb m ya yb j 0 0 0 = some R
  | 0, j, ya, yb, h, b1, b2, hr => by
    have : j = m := by omega
    subst this
    simpa using hr
  | d + 1, j, ya, yb, h, b1, b2, hr => by
    refine of_l (l240_10 _ _ _ _ _ _ _ _ _) ?_
    have hl : j < m := by omega
    have e1 : ya * 2 ^ (d + 1) = (ya * 2) * 2 ^ d := by rw [Int.pow_succ, Int.mul_comm (2 ^ d) 2, ← Int.mul_assoc]
    have e2 : yb * 2 ^ (d + 1) = (yb * 2) * 2 ^ d := by rw [Int.pow_succ, Int.mul_comm (2 ^ d) 2, ← Int.mul_assoc]
    rw [e1] at b1 hr
    rw [e2] at b2 hr
    have n1 := abs_le_mul (ya * 2) d
    have n2 := abs_le_mul (yb * 2) d
    simp only [Int.ofNat_lt, hl, decide_true, cond_true, wrap_abs (a := ya * 2) (by omega), wrap_abs (a := yb * 2) (by omega), wrap_add1 (show j < 4611686018427387904 by omega)]
    exact l240b xa xb m hm d (j + 1) (ya * 2) (yb * 2) (by omega) b1 b2 hr
theorem q240 {s : Nat} (hs : s ≤ 60) {x y : U1} {A1 B1 A2 B2 : Int} (hx : At s x A1 B1) (hy : At s y A2 B2) (b1 : A1.natAbs < 2305843009213693952) (b2 : B1.natAbs < 2305843009213693952) (b3 : A2.natAbs < 2305843009213693952) (b4 : B2.natAbs < 2305843009213693952) :
    ∃ z, At s z (A1 + A2) (B1 + B2) ∧ ∀ c, k240 x y c = c ((z, ()), ()) := by
  obtain ⟨i, hi, his, ea, eb, _⟩ := hx
  obtain ⟨j, hj, hjs, fa, fb, _⟩ := hy
  obtain ⟨xa, xb, xk⟩ := x
  obtain ⟨ya, yb, yk⟩ := y
  simp only at hi hj ea eb fa fb
  subst hi hj
  have hm1 : i ≤ max i j := Nat.le_max_left _ _
  have hm2 : j ≤ max i j := Nat.le_max_right _ _
  have hms : max i j ≤ s := Nat.max_le.2 ⟨his, hjs⟩
  have hcase : max i j = i ∨ max i j = j := by omega
  generalize hm : max i j = m at *
  have g1 : A1 = (xa * 2 ^ (m - i)) * 2 ^ (s - m) := by rw [ea, pow_split hm1 hms, Int.mul_assoc]
  have g2 : B1 = (xb * 2 ^ (m - i)) * 2 ^ (s - m) := by rw [eb, pow_split hm1 hms, Int.mul_assoc]
  have g3 : A2 = (ya * 2 ^ (m - j)) * 2 ^ (s - m) := by rw [fa, pow_split hm2 hms, Int.mul_assoc]
  have g4 : B2 = (yb * 2 ^ (m - j)) * 2 ^ (s - m) := by rw [fb, pow_split hm2 hms, Int.mul_assoc]
  have n1 := abs_le_mul (xa * 2 ^ (m - i)) (s - m); rw [← g1] at n1
  have n2 := abs_le_mul (xb * 2 ^ (m - i)) (s - m); rw [← g2] at n2
  have n3 := abs_le_mul (ya * 2 ^ (m - j)) (s - m); rw [← g3] at n3
  have n4 := abs_le_mul (yb * 2 ^ (m - j)) (s - m); rw [← g4] at n4
  refine ⟨lowN m (xa * 2 ^ (m - i) + ya * 2 ^ (m - j)) (xb * 2 ^ (m - i) + yb * 2 ^ (m - j)), ?_, fun c => of_e (s := s240) (e240 _ _) rfl ?_ c⟩
  · have := lowN_at s m (xa * 2 ^ (m - i) + ya * 2 ^ (m - j)) (xb * 2 ^ (m - i) + yb * 2 ^ (m - j)) hms
    rwa [Int.add_mul, Int.add_mul, ← g1, ← g2, ← g3, ← g4] at this
  · have last : L240_10 (xa * 2 ^ (m - i)) (xb * 2 ^ (m - i)) m (ya * 2 ^ (m - j)) (yb * 2 ^ (m - j)) m 0 0 0 = some (s240.E ((lowN m (xa * 2 ^ (m - i) + ya * 2 ^ (m - j)) (xb * 2 ^ (m - i) + yb * 2 ^ (m - j)), ()), ())) := by
      refine of_l (l240_10 _ _ _ _ _ _ _ _ _) ?_
      generalize xa * 2 ^ (m - i) = u1 at *
      generalize xb * 2 ^ (m - i) = u2 at *
      generalize ya * 2 ^ (m - j) = u3 at *
      generalize yb * 2 ^ (m - j) = u4 at *
      simp only [Int.ofNat_lt, Nat.lt_irrefl, decide_false, cond_false, wrap_abs (a := u1 + u3) (by omega), wrap_abs (a := u2 + u4) (by omega)]
      rw [q223 _ _ m (i64_abs (by omega)) (i64_abs (by omega)) (by omega)]
    rcases hcase with h | h
    · subst h
      have := l240b (xa * 2 ^ (m - m)) (xb * 2 ^ (m - m)) m (by omega) (m - j) j ya yb (by omega) (by omega) (by omega) last
      refine of_l (l240_2 _ _ _ _ _ _ _ _ _) ?_
      have hl : ¬ m < j := by omega
      simp only [Int.ofNat_lt, hl, decide_false, cond_false]
      simp only [Nat.sub_self, Int.pow_zero, Int.mul_one] at this ⊢
      exact this
    · subst h
      refine l240a ya yb m (by omega) (m - i) i xa xb (by omega) (by omega) (by omega) ?_
      simp only [Nat.sub_self, Int.pow_zero, Int.mul_one] at last ⊢
      exact last
theorem q211 {s : Nat} (hs : s ≤ 60) {x y : U1} {A1 B1 A2 B2 : Int} (hx : At s x A1 B1) (hy : At s y A2 B2) (b1 : A1.natAbs < 2305843009213693952) (b2 : B1.natAbs < 2305843009213693952) (b3 : A2.natAbs < 2305843009213693952) (b4 : B2.natAbs < 2305843009213693952) :
    ∃ z, At s z (A1 - A2) (B1 - B2) ∧ ∀ c, k211 x y c = c ((z, ()), ()) := by
  obtain ⟨u, hu, cu⟩ := q241 hy (by omega) (by omega)
  obtain ⟨z, hz, cz⟩ := q240 hs hx hu b1 b2 (by omega) (by omega)
  refine ⟨z, ?_, fun c => of_e (s := s211) (e211 x y) rfl (by simp only [cu, cz]; rfl) c⟩
  rwa [show A1 + (0 - A2) = A1 - A2 by omega, show B1 + (0 - B2) = B1 - B2 by omega] at hz
end Go.Vk.St
end

section
namespace Go.Vk.St
open Go Go.Proofs Go.Vk
set_option linter.unusedVariables false
set_option linter.unusedSimpArgs false
set_option maxRecDepth 100000

theorem mulw1 {p1 p2 : Int} (h1 : p1.natAbs < 1152921504606846976) (h2 : p2.natAbs < 288230376151711744) : IntKind.i64.wrap (IntKind.i64.wrap p1 + IntKind.i64.wrap (2 * p2)) = p1 + 2 * p2 ∧ I64 (p1 + 2 * p2) := by
  rw [wrap_abs (a := p1) (by omega), wrap_abs (a := 2 * p2) (by omega)]
  exact ⟨wrap_abs (by omega), i64_abs (by omega)⟩
theorem mulw2 {p1 p2 : Int} (h1 : p1.natAbs < 1152921504606846976) (h2 : p2.natAbs < 1152921504606846976) : IntKind.i64.wrap (IntKind.i64.wrap p1 + IntKind.i64.wrap p2) = p1 + p2 ∧ I64 (p1 + p2) := by
  rw [wrap_abs (a := p1) (by omega), wrap_abs (a := p2) (by omega)]
  exact ⟨wrap_abs (by omega), i64_abs (by omega)⟩
theorem wrap_2 {b : Int} (h : b.natAbs < 1152921504606846976) : IntKind.i64.wrap (2 * b) = 2 * b := wrap_abs (by omega)
theorem wrap_kk {i j s1 s2 : Nat} (h1 : i ≤ s1) (h2 : j ≤ s2) (hs : s1 + s2 ≤ 60) : IntKind.i64.wrap ((i : Int) + (j : Int)) = ((i + j : Nat) : Int) := by
  rw [wrap64 (by omega) (by omega)]; omega
/-- What a product of two numbers comes to: the same for both. -/
theorem mul_core {s1 s2 : Nat} (hs : s1 + s2 ≤ 60) {x y : U1} {A1 B1 A2 B2 : Int} (hx : At s1 x A1 B1) (hy : At s2 y A2 B2)
    (b1 : A1.natAbs * A2.natAbs < 1152921504606846976) (b2 : B1.natAbs * B2.natAbs < 288230376151711744) (b3 : A1.natAbs * B2.natAbs < 1152921504606846976) (b4 : B1.natAbs * A2.natAbs < 1152921504606846976) (b5 : B1.natAbs < 1152921504606846976) :
    ∃ (k : Nat) (u v : Int), k ≤ 60 ∧ IntKind.i64.wrap (x.2.2 + y.2.2) = (k : Int) ∧ IntKind.i64.wrap (IntKind.i64.wrap (x.1 * y.1) + IntKind.i64.wrap (IntKind.i64.wrap (2 * x.2.1) * y.2.1)) = u ∧ IntKind.i64.wrap (IntKind.i64.wrap (x.1 * y.2.1) + IntKind.i64.wrap (x.2.1 * y.1)) = v ∧
      I64 u ∧ I64 v ∧ At (s1 + s2) (lowN k u v) (A1 * A2 + 2 * B1 * B2) (A1 * B2 + B1 * A2) := by
  have hxa := hx.abs
  have hya := hy.abs
  obtain ⟨i, hi, his, ea, eb, _⟩ := hx
  obtain ⟨j, hj, hjs, fa, fb, _⟩ := hy
  have m1 := Nat.mul_le_mul hxa.1 hya.1
  have m2 := Nat.mul_le_mul hxa.2 hya.2
  have m3 := Nat.mul_le_mul hxa.1 hya.2
  have m4 := Nat.mul_le_mul hxa.2 hya.1
  rw [← Int.natAbs_mul] at m1 m2 m3 m4
  have c1 := Nat.lt_of_le_of_lt m1 b1
  have c2 := Nat.lt_of_le_of_lt m2 b2
  have c3 := Nat.lt_of_le_of_lt m3 b3
  have c4 := Nat.lt_of_le_of_lt m4 b4
  have c5 := Nat.lt_of_le_of_lt hxa.2 b5
  have e2 : 2 * x.2.1 * y.2.1 = 2 * (x.2.1 * y.2.1) := Int.mul_assoc _ _ _
  have hp : (2 : Int) ^ (s1 + s2 - (i + j)) = 2 ^ (s1 - i) * 2 ^ (s2 - j) := by rw [← Int.pow_add]; congr 1; omega
  refine ⟨i + j, x.1 * y.1 + 2 * x.2.1 * y.2.1, x.1 * y.2.1 + x.2.1 * y.1, by omega, ?_, ?_, ?_, ?_, ?_, ?_⟩
  · rw [hi, hj]; exact wrap_kk his hjs hs
  · rw [wrap_2 c5, e2]; exact (mulw1 c1 c2).1
  · exact (mulw2 c3 c4).1
  · rw [e2]; exact (mulw1 c1 c2).2
  · exact (mulw2 c3 c4).2
  · have := lowN_at (s1 + s2) (i + j) (x.1 * y.1 + 2 * x.2.1 * y.2.1) (x.1 * y.2.1 + x.2.1 * y.1) (by omega)
    rw [hp] at this
    have q1 : A1 * A2 + 2 * B1 * B2 = (x.1 * y.1 + 2 * x.2.1 * y.2.1) * (2 ^ (s1 - i) * 2 ^ (s2 - j)) := by
      rw [ea, eb, fa, fb, Int.add_mul]
      congr 1 <;> ac_rfl
    have q2 : A1 * B2 + B1 * A2 = (x.1 * y.2.1 + x.2.1 * y.1) * (2 ^ (s1 - i) * 2 ^ (s2 - j)) := by
      rw [ea, eb, fa, fb, Int.add_mul]
      congr 1 <;> ac_rfl
    rw [q1, q2]
    exact this
theorem q246 {s1 s2 : Nat} (hs : s1 + s2 ≤ 60) {x y : U1} {A1 B1 A2 B2 : Int} (hx : At s1 x A1 B1) (hy : At s2 y A2 B2)
    (b1 : A1.natAbs * A2.natAbs < 1152921504606846976) (b2 : B1.natAbs * B2.natAbs < 288230376151711744) (b3 : A1.natAbs * B2.natAbs < 1152921504606846976) (b4 : B1.natAbs * A2.natAbs < 1152921504606846976) (b5 : B1.natAbs < 1152921504606846976) :
    ∃ z, At (s1 + s2) z (A1 * A2 + 2 * B1 * B2) (A1 * B2 + B1 * A2) ∧ ∀ c, k246 x y c = c ((z, ()), ()) := by
  obtain ⟨k, u, v, hk, e1, e2, e3, hu, hv, hz⟩ := mul_core hs hx hy b1 b2 b3 b4 b5
  refine ⟨_, hz, fun c => of_e (s := s246) (e246 x y) rfl ?_ c⟩
  rw [e1, e2, e3, q257 u v k hu hv (by omega)]
  rfl
theorem q243 {s1 s2 : Nat} (hs : s1 + s2 ≤ 60) {x y : U1} {A1 B1 A2 B2 : Int} (hx : At s1 x A1 B1) (hy : At s2 y A2 B2)
    (b1 : A1.natAbs * A2.natAbs < 1152921504606846976) (b2 : B1.natAbs * B2.natAbs < 288230376151711744) (b3 : A1.natAbs * B2.natAbs < 1152921504606846976) (b4 : B1.natAbs * A2.natAbs < 1152921504606846976) (b5 : B1.natAbs < 1152921504606846976) :
    ∃ z, At (s1 + s2) z (A1 * A2 + 2 * B1 * B2) (A1 * B2 + B1 * A2) ∧ ∀ c, k243 x y c = c ((z, ()), ()) := by
  obtain ⟨k, u, v, hk, e1, e2, e3, hu, hv, hz⟩ := mul_core hs hx hy b1 b2 b3 b4 b5
  refine ⟨_, hz, fun c => of_e (s := s243) (e243 x y) rfl ?_ c⟩
  rw [e1, e2, e3, q223 u v k hu hv (by omega)]
  rfl
/-- Zero, told by the value. -/
theorem At.zero {s : Nat} {x : U1} {A B : Int} (h : At s x A B) : ((x.1 == (0 : Int)) && ((x.2.1 == (0 : Int)) && ((x.2.2 == (0 : Int)) && true))) = decide (A = 0 ∧ B = 0) := by
  obtain ⟨k, h1, h2, h3, h4, h5⟩ := h
  have hp : (2 : Int) ^ (s - k) ≠ 0 := Int.pow_ne_zero (by decide)
  simp only [beqD, Bool.and_true]
  by_cases ha : x.1 = 0
  · by_cases hb : x.2.1 = 0
    · have hk : k = 0 := by omega
      subst hk
      simp [ha, hb, h1, h3, h4]
    · have : ¬ B = 0 := by rw [h4]; intro e; rcases Int.mul_eq_zero.1 e with e | e <;> contradiction
      simp [hb, this]
  · have : ¬ A = 0 := by rw [h3]; intro e; rcases Int.mul_eq_zero.1 e with e | e <;> contradiction
    simp [ha, this]
end Go.Vk.St
end

section
namespace Go.Vk.St
open Go Go.Proofs Go.Vk
set_option linter.unusedVariables false
set_option linter.unusedSimpArgs false
set_option maxRecDepth 100000

theorem wrapU {n : Int} (h1 : 0 ≤ n) (h2 : n < 18446744073709551616) : IntKind.u64.wrap n = n := by
  unfold IntKind.wrap
  simp [IntKind.bits, IntKind.signed]
  omega
theorem and32 {u : Nat} (h : u < 4294967296) : IntKind.u64.wrap (((BitVec.ofInt IntKind.u64.bits (u : Int) &&& BitVec.ofInt IntKind.u64.bits (4294967295 : Int)).toNat : Nat) : Int) = u := by
  have e : (BitVec.ofInt IntKind.u64.bits (u : Int) &&& BitVec.ofInt IntKind.u64.bits (4294967295 : Int)).toNat = u := by
    show (BitVec.ofInt 64 (u : Int) &&& BitVec.ofInt 64 (4294967295 : Int)).toNat = u
    rw [BitVec.toNat_and, BitVec.toNat_ofInt, show (BitVec.ofInt 64 (4294967295 : Int)).toNat = 2 ^ 32 - 1 from rfl, Nat.and_two_pow_sub_one_eq_mod]
    omega
  rw [e]; exact wrapU (by omega) (by omega)
theorem shr32 {u : Nat} (h : u < 4294967296) : Int.fdiv (u : Int) (2 ^ (min 32 IntKind.u64.bits)) = 0 := by
  show Int.fdiv (u : Int) 4294967296 = 0
  rw [Int.fdiv_eq_ediv_of_nonneg _ (by decide)]; omega
theorem shrN (m : Nat) : Int.fdiv (m : Int) (2 ^ (min 32 IntKind.u64.bits)) = ((m / 4294967296 : Nat) : Int) := by
  show Int.fdiv (m : Int) 4294967296 = _
  rw [Int.fdiv_eq_ediv_of_nonneg _ (by decide)]; omega
theorem or0 : IntKind.u64.wrap (((BitVec.ofInt IntKind.u64.bits (0 : Int) ||| BitVec.ofInt IntKind.u64.bits (0 : Int)).toNat : Nat) : Int) = 0 := by decide
theorem mul_lt {u v : Nat} (h : u < 4294967296) (h' : v < 4294967296) : u * v < 18446744073709551616 := by
  have := Nat.mul_le_mul (Nat.le_of_lt_succ h) (Nat.le_of_lt_succ h')
  omega
theorem q258 {u v : Nat} (h : u < 4294967296) (h' : v < 4294967296) (c) : k258 u v c = c (((0 : Int), ((u * v : Nat) : Int), ()), ()) := by
  refine of_e (s := s258) (e258 _ _) rfl ?_ c
  have hm := mul_lt h h'
  have e0 : Int.fdiv (0 : Int) (2 ^ (min 32 IntKind.u64.bits)) = 0 := by decide
  have w0 : IntKind.u64.wrap 0 = 0 := by decide
  have a0 : IntKind.u64.wrap (((BitVec.ofInt IntKind.u64.bits (0 : Int) &&& BitVec.ofInt IntKind.u64.bits (4294967295 : Int)).toNat : Nat) : Int) = 0 := by decide
  have hq : u * v / 4294967296 < 4294967296 := by omega
  have wm : IntKind.u64.wrap ((u : Int) * (v : Int)) = ((u * v : Nat) : Int) := by
    rw [← Int.natCast_mul]; exact wrapU (by omega) (by omega)
  have wq : IntKind.u64.wrap ((u * v / 4294967296 : Nat) : Int) = ((u * v / 4294967296 : Nat) : Int) := wrapU (by omega) (by omega)
  simp only [shr32 h, shr32 h', and32 h, and32 h', Int.zero_mul, Int.mul_zero, w0, Int.zero_add, Int.add_zero, wm, shrN, wq, and32 hq, shr32 hq]
  rfl
theorem q259 {a : Int} (h : a.natAbs < 4611686018427387904) (c) : k259 a c = c (((a.natAbs : Int), ()), ()) := by
  refine of_e (s := s259) (e259 _) rfl ?_ c
  rw [wrap_abs (a := 0 - a) (by omega)]
  have : (if 0 - a > a then 0 - a else a) = (a.natAbs : Int) := by split <;> omega
  rw [this]; rfl
end Go.Vk.St
end

section
namespace Go.Vk.St
open Go Go.Proofs Go.Vk
set_option linter.unusedVariables false
set_option linter.unusedSimpArgs false
set_option maxRecDepth 100000

theorem shr63 {m : Nat} (h : m < 4611686018427387904) : Int.fdiv (m : Int) (2 ^ (min 63 IntKind.u64.bits)) = 0 := by
  show Int.fdiv (m : Int) 9223372036854775808 = 0
  rw [Int.fdiv_eq_ediv_of_nonneg _ (by decide)]; omega
theorem sq_lt {u : Nat} (h : u < 2147483648) : u * u < 4611686018427387904 := by
  have := Nat.mul_le_mul (Nat.le_of_lt_succ h) (Nat.le_of_lt_succ h)
  omega
theorem q249 {a b : Int} (ha : a.natAbs < 2147483648) (hb : b.natAbs < 2147483648) (c) : k249 a b c = c ((decide (a.natAbs * a.natAbs > 2 * (b.natAbs * b.natAbs)), ()), ()) := by
  refine of_e (s := s249) (e249 _ _) rfl ?_ c
  have h1 : ∀ c, k259 a c = c (((a.natAbs : Int), ()), ()) := q259 (by omega)
  have h2 : ∀ c, k259 b c = c (((b.natAbs : Int), ()), ()) := q259 (by omega)
  have w1 : IntKind.u64.wrap (a.natAbs : Int) = (a.natAbs : Int) := wrapU (by omega) (by omega)
  have w2 : IntKind.u64.wrap (b.natAbs : Int) = (b.natAbs : Int) := wrapU (by omega) (by omega)
  have h3 : ∀ c, k258 (a.natAbs : Int) (a.natAbs : Int) c = c (((0 : Int), ((a.natAbs * a.natAbs : Nat) : Int), ()), ()) := q258 (by omega) (by omega)
  have h4 : ∀ c, k258 (b.natAbs : Int) (b.natAbs : Int) c = c (((0 : Int), ((b.natAbs * b.natAbs : Nat) : Int), ()), ()) := q258 (by omega) (by omega)
  have s1 := sq_lt ha
  have s2 := sq_lt hb
  have z1 : IntKind.u64.wrap ((0 : Int) * 2 ^ (min 1 IntKind.u64.bits)) = 0 := by decide
  have z2 : IntKind.u64.wrap (((b.natAbs * b.natAbs : Nat) : Int) * 2 ^ (min 1 IntKind.u64.bits)) = ((2 * (b.natAbs * b.natAbs) : Nat) : Int) := by
    show IntKind.u64.wrap (((b.natAbs * b.natAbs : Nat) : Int) * 2) = _
    rw [wrapU (by omega) (by omega)]; omega
  simp only [h1, h2, w1, w2, h3, h4, z1, z2, shr63 s2, or0]
  generalize a.natAbs * a.natAbs = p at *
  generalize 2 * (b.natAbs * b.natAbs) = q at *
  have : decide ((p : Int) > (q : Int)) = decide (p > q) := by simp
  simp only [beqD, decide_true, cond_true, this]
  rfl
theorem q256 {a : Int} (ha : a.natAbs < 2147483648) (c) : k256 a c = c (((0 : Int), ((a.natAbs * a.natAbs : Nat) : Int), ()), ()) := by
  refine of_e (s := s256) (e256 _) rfl ?_ c
  have s1 := sq_lt ha
  have hu : a.natAbs < 4294967296 := by omega
  have wm : IntKind.u64.wrap ((a.natAbs : Int) * (a.natAbs : Int)) = ((a.natAbs * a.natAbs : Nat) : Int) := by
    rw [← Int.natCast_mul]; exact wrapU (by omega) (by omega)
  have wp : IntKind.u64.wrap ((a.natAbs * a.natAbs : Nat) : Int) = ((a.natAbs * a.natAbs : Nat) : Int) := wrapU (by omega) (by omega)
  have w0 : IntKind.u64.wrap 0 = 0 := by decide
  have e0 : Int.fdiv (0 : Int) (2 ^ (min 32 IntKind.u64.bits)) = 0 := by decide
  by_cases hn : a < 0
  · have e : IntKind.u64.wrap (IntKind.i64.wrap (0 - a)) = (a.natAbs : Int) := by
      rw [wrap_abs (a := 0 - a) (by omega), wrapU (by omega) (by omega)]; omega
    simp only [hn, decide_true, cond_true, e, and32 hu, shr32 hu, Int.mul_zero, Int.zero_mul, w0, Int.add_zero, wm, wp, e0, Int.lt_irrefl, decide_false, cond_false]
    rfl
  · have e : IntKind.u64.wrap a = (a.natAbs : Int) := by
      rw [wrapU (by omega) (by omega)]; omega
    simp only [hn, decide_false, cond_false, e, and32 hu, shr32 hu, Int.mul_zero, Int.zero_mul, w0, Int.add_zero, wm, wp, e0, Int.lt_irrefl]
    rfl
theorem q239 {a b : Int} (ha : a.natAbs < 2147483648) (hb : b.natAbs < 2147483648) (c) : k239 a b c = c ((decide (a.natAbs * a.natAbs < 2 * (b.natAbs * b.natAbs)), ()), ()) := by
  refine of_e (s := s239) (e239 _ _) rfl ?_ c
  have h1 : ∀ c, k256 a c = c (((0 : Int), ((a.natAbs * a.natAbs : Nat) : Int), ()), ()) := q256 ha
  have h2 : ∀ c, k256 b c = c (((0 : Int), ((b.natAbs * b.natAbs : Nat) : Int), ()), ()) := q256 hb
  have s1 := sq_lt ha
  have s2 := sq_lt hb
  have w0 : IntKind.u64.wrap 0 = 0 := by decide
  have z2 : IntKind.u64.wrap (((b.natAbs * b.natAbs : Nat) : Int) * 2) = ((2 * (b.natAbs * b.natAbs) : Nat) : Int) := by
    rw [wrapU (by omega) (by omega)]; omega
  simp only [h1, h2, Int.zero_mul, w0, shr63 s2, Int.add_zero, z2]
  generalize a.natAbs * a.natAbs = p at *
  generalize 2 * (b.natAbs * b.natAbs) = q at *
  have : decide ((p : Int) < (q : Int)) = decide (p < q) := by simp
  simp only [beqD, decide_true, cond_true, Int.lt_irrefl, decide_false, cond_false, this]
  rfl
end Go.Vk.St
end

section
namespace Go.Vk.St
open Go Go.Proofs Go.Vk
set_option linter.unusedVariables false
set_option linter.unusedSimpArgs false
set_option maxRecDepth 100000

theorem irr : ∀ (n m : Nat), n * n = 2 * (m * m) → n = 0 := by
  intro n
  induction n using Nat.strongRecOn with
  | ind n ih =>
    intro m h
    rcases Nat.eq_zero_or_pos n with h0 | h0
    · exact h0
    · have he : n % 2 = 0 := by
        rcases Nat.mod_two_eq_zero_or_one n with e | e
        · exact e
        · have : n * n % 2 = 1 := by rw [Nat.mul_mod, e]
          omega
      obtain ⟨p, rfl⟩ : ∃ p, n = 2 * p := ⟨n / 2, by omega⟩
      have h1 : m * m = 2 * (p * p) := by
        have : 2 * p * (2 * p) = 4 * (p * p) := by rw [Nat.mul_mul_mul_comm]
        omega
      have hm : m < 2 * p := by
        rcases Nat.lt_or_ge m (2 * p) with h | h
        · exact h
        · have := Nat.mul_le_mul h h
          have h4 : 2 * p * (2 * p) = 4 * (p * p) := by rw [Nat.mul_mul_mul_comm]
          have : 0 < p * p := Nat.mul_pos (by omega) (by omega)
          omega
      have := ih m hm p h1
      subst this
      have : p * p = 0 := by omega
      rcases Nat.mul_eq_zero.1 this with e | e <;> omega

/-- The sign of A + B sqrt 2. -/
def sgn (A B : Int) : Int :=
  if A = 0 ∧ B = 0 then 0 else if 0 ≤ A ∧ 0 ≤ B then 1 else if A ≤ 0 ∧ B ≤ 0 then -1
  else if A.natAbs * A.natAbs > 2 * (B.natAbs * B.natAbs) then (if 0 < A then 1 else -1) else (if 0 < B then 1 else -1)

theorem q248 (a : Int) (c) : k248 a c = c (((if a > 0 then 1 else if a = 0 then 0 else -1 : Int), ()), ()) := by
  refine of_e (s := s248) (e248 _) rfl ?_ c
  have : (if (if a < (1 : Int) then a else (1 : Int)) > (-1 : Int) then (if a < (1 : Int) then a else (1 : Int)) else (-1 : Int)) = (if a > 0 then 1 else if a = 0 then 0 else -1 : Int) := by
    repeat' split
    all_goals omega
  rw [this]; rfl

theorem sg_neg {a : Int} (h : a < 0) : (if a > 0 then 1 else if a = 0 then 0 else -1 : Int) = -1 := by
  rw [if_neg (by omega), if_neg (by omega)]
theorem sg_pos {a : Int} (h : 0 < a) : (if a > 0 then 1 else if a = 0 then 0 else -1 : Int) = 1 := by
  rw [if_pos h]
theorem q220 (x : U1) (ha : x.1.natAbs < 2147483648) (hb : x.2.1.natAbs < 2147483648) (c) : k220 x c = c ((sgn x.1 x.2.1, ()), ()) := by
  refine of_e (s := s220) (e220 x) rfl ?_ c
  obtain ⟨a, b, k⟩ := x
  simp only at ha hb
  have h9 : ∀ c, k249 a b c = c ((decide (a.natAbs * a.natAbs > 2 * (b.natAbs * b.natAbs)), ()), ()) := q249 ha hb
  simp only [q248, beqD, h9]
  unfold sgn
  rcases Int.lt_trichotomy a 0 with h1 | h1 | h1 <;> rcases Int.lt_trichotomy b 0 with h2 | h2 | h2
  · have e1 : (if a > 0 then 1 else if a = 0 then 0 else -1 : Int) = -1 := sg_neg h1
    have e2 : (if b > 0 then 1 else if b = 0 then 0 else -1 : Int) = -1 := sg_neg h2
    rw [e1, e2, if_neg (by omega), if_neg (by omega), if_pos (by omega)]
    rfl
  · subst h2
    have e1 : (if a > 0 then 1 else if a = 0 then 0 else -1 : Int) = -1 := sg_neg h1
    rw [e1, if_neg (show ¬ (a = 0 ∧ (0 : Int) = 0) by omega), if_neg (show ¬ (0 ≤ a ∧ (0 : Int) ≤ 0) by omega), if_pos (show a ≤ 0 ∧ (0 : Int) ≤ 0 by omega)]
    rfl
  · have e1 : (if a > 0 then 1 else if a = 0 then 0 else -1 : Int) = -1 := sg_neg h1
    have e2 : (if b > 0 then 1 else if b = 0 then 0 else -1 : Int) = 1 := sg_pos h2
    rw [e1, e2, if_neg (show ¬ (a = 0 ∧ b = 0) by omega), if_neg (show ¬ (0 ≤ a ∧ 0 ≤ b) by omega), if_neg (show ¬ (a ≤ 0 ∧ b ≤ 0) by omega), if_neg (show ¬ 0 < a by omega), if_pos (show 0 < b by omega)]
    by_cases hg : a.natAbs * a.natAbs > 2 * (b.natAbs * b.natAbs)
    · rw [if_pos hg, decide_eq_true hg]; rfl
    · rw [if_neg hg, decide_eq_false hg]; rfl
  · subst h1
    have e2 : (if b > 0 then 1 else if b = 0 then 0 else -1 : Int) = -1 := sg_neg h2
    rw [e2, if_neg (show ¬ ((0 : Int) = 0 ∧ b = 0) by omega), if_neg (show ¬ ((0 : Int) ≤ 0 ∧ 0 ≤ b) by omega), if_pos (show (0 : Int) ≤ 0 ∧ b ≤ 0 by omega)]
    rfl
  · subst h1 h2; rfl
  · subst h1
    have e2 : (if b > 0 then 1 else if b = 0 then 0 else -1 : Int) = 1 := sg_pos h2
    rw [e2, if_neg (show ¬ ((0 : Int) = 0 ∧ b = 0) by omega), if_pos (show (0 : Int) ≤ 0 ∧ 0 ≤ b by omega)]
    rfl
  · have e1 : (if a > 0 then 1 else if a = 0 then 0 else -1 : Int) = 1 := sg_pos h1
    have e2 : (if b > 0 then 1 else if b = 0 then 0 else -1 : Int) = -1 := sg_neg h2
    rw [e1, e2, if_neg (show ¬ (a = 0 ∧ b = 0) by omega), if_neg (show ¬ (0 ≤ a ∧ 0 ≤ b) by omega), if_neg (show ¬ (a ≤ 0 ∧ b ≤ 0) by omega), if_pos (show 0 < a by omega), if_neg (show ¬ 0 < b by omega)]
    by_cases hg : a.natAbs * a.natAbs > 2 * (b.natAbs * b.natAbs)
    · rw [if_pos hg, decide_eq_true hg]; rfl
    · rw [if_neg hg, decide_eq_false hg]; rfl
  · subst h2
    have e1 : (if a > 0 then 1 else if a = 0 then 0 else -1 : Int) = 1 := sg_pos h1
    rw [e1, if_neg (show ¬ (a = 0 ∧ (0 : Int) = 0) by omega), if_pos (show 0 ≤ a ∧ (0 : Int) ≤ 0 by omega)]
    rfl
  · have e1 : (if a > 0 then 1 else if a = 0 then 0 else -1 : Int) = 1 := sg_pos h1
    have e2 : (if b > 0 then 1 else if b = 0 then 0 else -1 : Int) = 1 := sg_pos h2
    rw [e1, e2, if_neg (by omega), if_pos (by omega)]
    rfl
end Go.Vk.St
end

section
namespace Go.Vk.St
open Go Go.Proofs Go.Vk
set_option linter.unusedVariables false
set_option linter.unusedSimpArgs false
set_option maxRecDepth 100000

theorem ne2 {a b : Int} (h : a ≠ 0) : a.natAbs * a.natAbs ≠ 2 * (b.natAbs * b.natAbs) := fun e => by
  have := irr _ _ e; omega
theorem q210 (x : U1) (ha : x.1.natAbs < 2147483648) (hb : x.2.1.natAbs < 2147483648) (c) : k210 x c = c ((sgn x.1 x.2.1, ()), ()) := by
  refine of_e (s := s210) (e210 x) rfl ?_ c
  obtain ⟨a, b, k⟩ := x
  simp only at ha hb
  have h9 : ∀ c, k239 a b c = c ((decide (a.natAbs * a.natAbs < 2 * (b.natAbs * b.natAbs)), ()), ()) := q239 ha hb
  simp only [beqD, h9]
  unfold sgn
  rcases Int.lt_trichotomy a 0 with h1 | h1 | h1 <;> rcases Int.lt_trichotomy b 0 with h2 | h2 | h2
  · rw [decide_eq_false (show ¬ a = 0 by omega), decide_eq_false (show ¬ a ≥ 0 by omega), decide_eq_true (show a ≤ 0 by omega), decide_eq_true (show b ≤ 0 by omega), if_neg (by omega), if_neg (by omega), if_pos (by omega)]
    rfl
  · rw [decide_eq_false (show ¬ a = 0 by omega), decide_eq_false (show ¬ a ≥ 0 by omega), decide_eq_true (show a ≤ 0 by omega), decide_eq_true (show b ≤ 0 by omega), if_neg (by omega), if_neg (by omega), if_pos (by omega)]
    rfl
  · rw [decide_eq_false (show ¬ a = 0 by omega), decide_eq_false (show ¬ a ≥ 0 by omega), decide_eq_true (show a ≤ 0 by omega), decide_eq_false (show ¬ b ≤ 0 by omega), decide_eq_true (show b > 0 by omega), if_neg (show ¬ (a = 0 ∧ b = 0) by omega), if_neg (show ¬ (0 ≤ a ∧ 0 ≤ b) by omega), if_neg (show ¬ (a ≤ 0 ∧ b ≤ 0) by omega), if_neg (show ¬ 0 < a by omega), if_pos (show 0 < b by omega)]
    have := ne2 (a := a) (b := b) (by omega)
    by_cases hg : a.natAbs * a.natAbs > 2 * (b.natAbs * b.natAbs)
    · rw [if_pos hg, decide_eq_false (show ¬ a.natAbs * a.natAbs < 2 * (b.natAbs * b.natAbs) from Nat.lt_asymm hg)]; rfl
    · rw [if_neg hg, decide_eq_true (show a.natAbs * a.natAbs < 2 * (b.natAbs * b.natAbs) from Nat.lt_of_le_of_ne (Nat.le_of_not_lt hg) this)]; rfl
  · subst h1
    rw [decide_eq_true (show (0 : Int) = 0 from rfl), decide_eq_false (show ¬ b = 0 by omega), decide_eq_true (show (0 : Int) ≥ 0 by omega), decide_eq_false (show ¬ b ≥ 0 by omega), decide_eq_true (show b ≤ 0 by omega), if_neg (by omega), if_neg (by omega), if_pos (by omega)]
    rfl
  · subst h1 h2; rfl
  · subst h1
    rw [decide_eq_true (show (0 : Int) = 0 from rfl), decide_eq_false (show ¬ b = 0 by omega), decide_eq_true (show (0 : Int) ≥ 0 by omega), decide_eq_true (show b ≥ 0 by omega), if_neg (by omega), if_pos (by omega)]
    rfl
  · rw [decide_eq_false (show ¬ a = 0 by omega), decide_eq_true (show a ≥ 0 by omega), decide_eq_false (show ¬ b ≥ 0 by omega), decide_eq_false (show ¬ a ≤ 0 by omega), decide_eq_false (show ¬ b > 0 by omega), if_neg (show ¬ (a = 0 ∧ b = 0) by omega), if_neg (show ¬ (0 ≤ a ∧ 0 ≤ b) by omega), if_neg (show ¬ (a ≤ 0 ∧ b ≤ 0) by omega), if_pos (show 0 < a by omega), if_neg (show ¬ 0 < b by omega)]
    have := ne2 (a := a) (b := b) (by omega)
    by_cases hg : a.natAbs * a.natAbs > 2 * (b.natAbs * b.natAbs)
    · rw [if_pos hg, decide_eq_false (show ¬ a.natAbs * a.natAbs < 2 * (b.natAbs * b.natAbs) from Nat.lt_asymm hg)]; rfl
    · rw [if_neg hg, decide_eq_true (show a.natAbs * a.natAbs < 2 * (b.natAbs * b.natAbs) from Nat.lt_of_le_of_ne (Nat.le_of_not_lt hg) this)]; rfl
  · rw [decide_eq_false (show ¬ a = 0 by omega), decide_eq_true (show a ≥ 0 by omega), decide_eq_true (show b ≥ 0 by omega), if_neg (by omega), if_pos (by omega)]
    rfl
  · rw [decide_eq_false (show ¬ a = 0 by omega), decide_eq_true (show a ≥ 0 by omega), decide_eq_true (show b ≥ 0 by omega), if_neg (by omega), if_pos (by omega)]
    rfl
end Go.Vk.St
end

section
namespace Go.Vk.St
open Go Go.Proofs Go.Vk
set_option linter.unusedVariables false
set_option linter.unusedSimpArgs false
set_option maxRecDepth 100000

theorem scale_iff (c : Int) {p : Int} (hp : 0 < p) : (c * p = 0 ↔ c = 0) ∧ (0 ≤ c * p ↔ 0 ≤ c) ∧ (c * p ≤ 0 ↔ c ≤ 0) ∧ (0 < c * p ↔ 0 < c) := by
  rcases Int.lt_trichotomy c 0 with h | h | h
  · have := Int.mul_neg_of_neg_of_pos h hp
    omega
  · subst h; simp
  · have := Int.mul_pos h hp
    omega
theorem sgn_scale (a b : Int) {p : Int} (hp : 0 < p) : sgn (a * p) (b * p) = sgn a b := by
  obtain ⟨a1, a2, a3, a4⟩ := scale_iff a hp
  obtain ⟨b1, b2, b3, b4⟩ := scale_iff b hp
  have hq : 0 < p.natAbs * p.natAbs := Nat.mul_pos (by omega) (by omega)
  have e1 : (a * p).natAbs * (a * p).natAbs = (a.natAbs * a.natAbs) * (p.natAbs * p.natAbs) := by rw [Int.natAbs_mul]; ac_rfl
  have e2 : 2 * ((b * p).natAbs * (b * p).natAbs) = (2 * (b.natAbs * b.natAbs)) * (p.natAbs * p.natAbs) := by rw [Int.natAbs_mul]; ac_rfl
  have hs : ((a * p).natAbs * (a * p).natAbs > 2 * ((b * p).natAbs * (b * p).natAbs)) ↔ (a.natAbs * a.natAbs > 2 * (b.natAbs * b.natAbs)) := by
    rw [e1, e2]
    exact Nat.mul_lt_mul_right hq
  unfold sgn
  simp only [a1, a2, a3, a4, b1, b2, b3, b4, hs]
theorem At.sgn {s : Nat} {x : U1} {A B : Int} (h : At s x A B) : St.sgn x.1 x.2.1 = St.sgn A B := by
  obtain ⟨k, _, _, h3, h4, _⟩ := h
  rw [h3, h4, sgn_scale _ _ (Int.pow_pos (by decide))]
/-- Signs. -/
theorem q220a {s : Nat} {x : U1} {A B : Int} (h : At s x A B) (ha : A.natAbs < 2147483648) (hb : B.natAbs < 2147483648) (c) : k220 x c = c ((sgn A B, ()), ()) := by
  obtain ⟨h1, h2⟩ := h.abs
  rw [q220 x (by omega) (by omega), h.sgn]
theorem q210a {s : Nat} {x : U1} {A B : Int} (h : At s x A B) (ha : A.natAbs < 2147483648) (hb : B.natAbs < 2147483648) (c) : k210 x c = c ((sgn A B, ()), ()) := by
  obtain ⟨h1, h2⟩ := h.abs
  rw [q210 x (by omega) (by omega), h.sgn]
/-- Comparisons. -/
theorem q221 {s : Nat} (hs : s ≤ 60) {x y : U1} {A1 B1 A2 B2 : Int} (hx : At s x A1 B1) (hy : At s y A2 B2) (b1 : A1.natAbs < 1073741824) (b2 : B1.natAbs < 1073741824) (b3 : A2.natAbs < 1073741824) (b4 : B2.natAbs < 1073741824) (c) :
    k221 x y c = c ((sgn (A1 - A2) (B1 - B2), ()), ()) := by
  obtain ⟨z, hz, cz⟩ := q244 hs hx hy (by omega) (by omega) (by omega) (by omega)
  have := q220a hz (by omega) (by omega)
  exact of_e (s := s221) (e221 x y) rfl (by simp only [cz, this]; rfl) c
theorem q179 {s : Nat} (hs : s ≤ 60) {x y : U1} {A1 B1 A2 B2 : Int} (hx : At s x A1 B1) (hy : At s y A2 B2) (b1 : A1.natAbs < 1073741824) (b2 : B1.natAbs < 1073741824) (b3 : A2.natAbs < 1073741824) (b4 : B2.natAbs < 1073741824) (c) :
    k179 x y c = c ((sgn (A1 - A2) (B1 - B2), ()), ()) := by
  have c212 : ∀ (x : U1) c, k212 x c = c ((x, ()), ()) := fun x c => of_e (s := s212) (e212 x) rfl rfl c
  obtain ⟨z, hz, cz⟩ := q211 hs hx hy (by omega) (by omega) (by omega) (by omega)
  have := q210a hz (by omega) (by omega)
  exact of_e (s := s179) (e179 x y) rfl (by simp only [c212, cz, this]; rfl) c
end Go.Vk.St
end

section
namespace Go.Vk.St
open Go Go.Proofs Go.Vk
set_option linter.unusedVariables false
set_option linter.unusedSimpArgs false
set_option maxRecDepth 100000

def inR (x lo hi : Int) : Bool := decide (lo ≤ x) && decide (x ≤ hi)
theorem q53 (x lo hi : Int) (c) : k53 x lo hi c = c ((inR x lo hi, ()), ()) := by
  refine of_e (s := s53) (e53 x lo hi) rfl ?_ c
  unfold inR
  show (bif decide (lo ≤ x) then _ else _) = _
  cases decide (lo ≤ x) <;> rfl
theorem q88 (x lo hi : Int) (c) : k88 x lo hi c = c ((inR x lo hi, ()), ()) := by
  refine of_e (s := s88) (e88 x lo hi) rfl ?_ c
  unfold inR
  show (bif decide (lo ≤ x) then _ else _) = _
  cases decide (lo ≤ x) <;> rfl
def valN (x : U1) : Bool := inR x.1 (-131072) 131072 && (inR x.2.1 (-131072) 131072 && (inR x.2.2 0 10 && (decide (x.2.2 = 0) || (decide (x.1 % 2 = 1) || decide (x.2.1 % 2 = 1)))))
theorem q92 (x : U1) (c) : k92 x c = c ((valN x, ()), ()) := by
  refine of_e (s := s92) (e92 x) rfl ?_ c
  simp only [q53, and1, beqD]
  unfold valN
  cases inR x.1 (-131072) 131072
  · rfl
  · cases inR x.2.1 (-131072) 131072
    · rfl
    · cases inR x.2.2 0 10
      · rfl
      · cases decide (x.2.2 = 0)
        · cases decide (x.1 % 2 = 1)
          · cases decide (x.2.1 % 2 = 1) <;> rfl
          · rfl
        · rfl
theorem valN_at {x : U1} (h : valN x = true) : ∃ A B, At 10 x A B ∧ A.natAbs ≤ 134217728 ∧ B.natAbs ≤ 134217728 := by
  unfold valN inR at h
  simp only [Bool.and_eq_true, Bool.or_eq_true, decide_eq_true_eq] at h
  obtain ⟨⟨h1, h2⟩, ⟨h3, h4⟩, ⟨h5, h6⟩, h7⟩ := h
  obtain ⟨k, hk⟩ := Int.eq_ofNat_of_zero_le h5
  have hk10 : k ≤ 10 := by omega
  refine ⟨_, _, ⟨k, hk, hk10, rfl, rfl, by omega⟩, ?_, ?_⟩
  · rw [Int.natAbs_mul, Int.natAbs_pow]
    have : (2 : Int).natAbs ^ (10 - k) ≤ 1024 := by
      have := Nat.pow_le_pow_right (n := 2) (by decide) (show 10 - k ≤ 10 by omega)
      simpa using this
    have := Nat.mul_le_mul (show x.1.natAbs ≤ 131072 by omega) this
    omega
  · rw [Int.natAbs_mul, Int.natAbs_pow]
    have : (2 : Int).natAbs ^ (10 - k) ≤ 1024 := by
      have := Nat.pow_le_pow_right (n := 2) (by decide) (show 10 - k ≤ 10 by omega)
      simpa using this
    have := Nat.mul_le_mul (show x.2.1.natAbs ≤ 131072 by omega) this
    omega
theorem tmod2n (a : Int) : (Int.tmod a 2 != 0) = decide (a % 2 = 1) := by
  rw [bne, tmod2]
  by_cases h : a % 2 = 0
  · rw [decide_eq_true h, decide_eq_false (by omega)]; rfl
  · rw [decide_eq_false h, decide_eq_true (by omega)]; rfl
theorem q134 (x : U1) (c) : k134 x c = c ((valN x, ()), ()) := by
  refine of_e (s := s134) (e134 x) rfl ?_ c
  simp only [q88, tmod2n, beqD]
  unfold valN
  cases inR x.1 (-131072) 131072
  · rfl
  · cases inR x.2.1 (-131072) 131072
    · rfl
    · cases inR x.2.2 0 10
      · rfl
      · cases decide (x.2.2 = 0)
        · cases decide (x.1 % 2 = 1)
          · cases decide (x.2.1 % 2 = 1) <;> rfl
          · rfl
        · rfl
def valP (p : U0) : Bool := valN p.1 && valN p.2
theorem q185 (p : U0) (c) : k185 p c = c ((valP p, ()), ()) := by
  refine of_e (s := s185) (e185 p) rfl ?_ c
  simp only [q92]
  unfold valP
  cases valN p.1 <;> rfl
end Go.Vk.St
end

section
namespace Go.Vk.St
open Go Go.Proofs Go.Vk
set_option linter.unusedVariables false
set_option linter.unusedSimpArgs false
set_option maxRecDepth 100000

theorem q141 (p : U0) (c) : k141 p c = c ((valP p, ()), ()) := by
  refine of_e (s := s141) (e141 p) rfl ?_ c
  simp only [q134]
  unfold valP
  cases valN p.1 <;> rfl
/-- A point's exact coordinates. -/
structure PAt (s : Nat) (p : U0) (X Y : Int × Int) : Prop where
  x : At s p.1 X.1 X.2
  y : At s p.2 Y.1 Y.2
def small (M : Nat) (X : Int × Int) : Prop := X.1.natAbs ≤ M ∧ X.2.natAbs ≤ M
theorem valP_at {p : U0} (h : valP p = true) : ∃ X Y, PAt 10 p X Y ∧ small 134217728 X ∧ small 134217728 Y := by
  unfold valP at h
  simp only [Bool.and_eq_true] at h
  obtain ⟨A, B, h1, h2, h3⟩ := valN_at h.1
  obtain ⟨C, D, g1, g2, g3⟩ := valN_at h.2
  exact ⟨(A, B), (C, D), ⟨h1, g1⟩, ⟨h2, h3⟩, ⟨g2, g3⟩⟩
def cmp (X1 Y1 X2 Y2 : Int × Int) : Int := bif sgn (X1.1 - X2.1) (X1.2 - X2.2) != 0 then sgn (X1.1 - X2.1) (X1.2 - X2.2) else sgn (Y1.1 - Y2.1) (Y1.2 - Y2.2)
theorem q188 {p q : U0} {X1 Y1 X2 Y2 : Int × Int} (hp : PAt 10 p X1 Y1) (hq : PAt 10 q X2 Y2) (b1 : small 134217728 X1) (b2 : small 134217728 Y1) (b3 : small 134217728 X2) (b4 : small 134217728 Y2) (c) : k188 p q c = c ((cmp X1 Y1 X2 Y2, ()), ()) := by
  obtain ⟨b1, b1'⟩ := b1
  obtain ⟨b2, b2'⟩ := b2
  obtain ⟨b3, b3'⟩ := b3
  obtain ⟨b4, b4'⟩ := b4
  have h1 := q221 (by omega) hp.x hq.x (by omega) (by omega) (by omega) (by omega)
  have h2 := q221 (by omega) hp.y hq.y (by omega) (by omega) (by omega) (by omega)
  refine of_e (s := s188) (e188 p q) rfl ?_ c
  simp only [h1, h2]
  unfold cmp
  cases (sgn (X1.1 - X2.1) (X1.2 - X2.2) != 0) <;> rfl
theorem q142 {p q : U0} {X1 Y1 X2 Y2 : Int × Int} (hp : PAt 10 p X1 Y1) (hq : PAt 10 q X2 Y2) (b1 : small 134217728 X1) (b2 : small 134217728 Y1) (b3 : small 134217728 X2) (b4 : small 134217728 Y2) (c) : k142 p q c = c ((cmp X1 Y1 X2 Y2, ()), ()) := by
  obtain ⟨b1, b1'⟩ := b1
  obtain ⟨b2, b2'⟩ := b2
  obtain ⟨b3, b3'⟩ := b3
  obtain ⟨b4, b4'⟩ := b4
  have h1 := q179 (by omega) hp.x hq.x (by omega) (by omega) (by omega) (by omega)
  have h2 := q179 (by omega) hp.y hq.y (by omega) (by omega) (by omega) (by omega)
  refine of_e (s := s142) (e142 p q) rfl ?_ c
  simp only [h1, h2]
  unfold cmp
  cases (sgn (X1.1 - X2.1) (X1.2 - X2.2) != 0) <;> rfl
end Go.Vk.St
end

section
namespace Go.Vk.St
open Go Go.Proofs Go.Vk
set_option linter.unusedVariables false
set_option linter.unusedSimpArgs false
set_option maxRecDepth 100000

def sub2 (X Y : Int × Int) : Int × Int := (X.1 - Y.1, X.2 - Y.2)
theorem q216 {p q : U0} {X1 Y1 X2 Y2 : Int × Int} (hp : PAt 10 p X1 Y1) (hq : PAt 10 q X2 Y2) (b1 : small 134217728 X1) (b2 : small 134217728 Y1) (b3 : small 134217728 X2) (b4 : small 134217728 Y2) :
    ∃ z, PAt 10 z (sub2 X1 X2) (sub2 Y1 Y2) ∧ ∀ c, k216 p q c = c ((z, ()), ()) := by
  obtain ⟨b1, b1'⟩ := b1
  obtain ⟨b2, b2'⟩ := b2
  obtain ⟨b3, b3'⟩ := b3
  obtain ⟨b4, b4'⟩ := b4
  obtain ⟨u, hu, cu⟩ := q244 (by omega) hp.x hq.x (by omega) (by omega) (by omega) (by omega)
  obtain ⟨v, hv, cv⟩ := q244 (by omega) hp.y hq.y (by omega) (by omega) (by omega) (by omega)
  exact ⟨(u, v), ⟨hu, hv⟩, fun c => of_e (s := s216) (e216 p q) rfl (by simp only [cu, cv]; rfl) c⟩
theorem q181 {p q : U0} {X1 Y1 X2 Y2 : Int × Int} (hp : PAt 10 p X1 Y1) (hq : PAt 10 q X2 Y2) (b1 : small 134217728 X1) (b2 : small 134217728 Y1) (b3 : small 134217728 X2) (b4 : small 134217728 Y2) :
    ∃ z, PAt 10 z (sub2 X1 X2) (sub2 Y1 Y2) ∧ ∀ c, k181 p q c = c ((z, ()), ()) := by
  obtain ⟨b1, b1'⟩ := b1
  obtain ⟨b2, b2'⟩ := b2
  obtain ⟨b3, b3'⟩ := b3
  obtain ⟨b4, b4'⟩ := b4
  obtain ⟨u, hu, cu⟩ := q211 (by omega) hp.x hq.x (by omega) (by omega) (by omega) (by omega)
  obtain ⟨v, hv, cv⟩ := q211 (by omega) hp.y hq.y (by omega) (by omega) (by omega) (by omega)
  exact ⟨(u, v), ⟨hu, hv⟩, fun c => of_e (s := s181) (e181 p q) rfl (by simp only [cu, cv]; rfl) c⟩
end Go.Vk.St
end

section
namespace Go.Vk.St
open Go Go.Proofs Go.Vk
set_option linter.unusedVariables false
set_option linter.unusedSimpArgs false
set_option maxRecDepth 100000

def VX : List (Int × Int) := [(1, 0), (1, 0), (1, 0), (-1, 1), (0, 0), (1, -1), (-1, 0), (-1, 0), (-1, 0), (-1, 0), (-1, 0), (1, -1), (0, 0), (-1, 1), (1, 0), (1, 0)]
def VY : List (Int × Int) := [(0, 0), (-1, 1), (1, 0), (1, 0), (1, 0), (1, 0), (1, 0), (-1, 1), (0, 0), (1, -1), (-1, 0), (-1, 0), (-1, 0), (-1, 0), (-1, 0), (1, -1)]
def vecT (d : Nat) : U0 := (((VX.getD d (0, 0)).1, (VX.getD d (0, 0)).2, 0), ((VY.getD d (0, 0)).1, (VY.getD d (0, 0)).2, 0))
theorem neg245 (x : U1) (c) : k245 x c = c (((IntKind.i64.wrap (0 - x.1), IntKind.i64.wrap (0 - x.2.1), x.2.2), ()), ()) := of_e (s := s245) (e245 x) rfl rfl c
theorem At0 (a b : Int) : At 0 (a, b, 0) a b := ⟨0, rfl, Nat.le_refl _, by simp, by simp, .inl rfl⟩
theorem vecT_at (d : Nat) : PAt 0 (vecT d) (VX.getD d (0, 0)) (VY.getD d (0, 0)) := ⟨At0 _ _, At0 _ _⟩
theorem q217 : ∀ (d : Nat), d < 16 → ∀ c, k217 (d : Int) c = c ((vecT d, ()), ())
  | 0, _, c => of_e (s := s217) (e217 ((0 : Nat) : Int)) rfl (by rfl) c
  | 1, _, c => of_e (s := s217) (e217 ((1 : Nat) : Int)) rfl (by rfl) c
  | 2, _, c => of_e (s := s217) (e217 ((2 : Nat) : Int)) rfl (by rfl) c
  | 3, _, c => of_e (s := s217) (e217 ((3 : Nat) : Int)) rfl (by rfl) c
  | 4, _, c => of_e (s := s217) (e217 ((4 : Nat) : Int)) rfl (by rfl) c
  | 5, _, c => of_e (s := s217) (e217 ((5 : Nat) : Int)) rfl (by rfl) c
  | 6, _, c => of_e (s := s217) (e217 ((6 : Nat) : Int)) rfl (by rfl) c
  | 7, _, c => of_e (s := s217) (e217 ((7 : Nat) : Int)) rfl (by rfl) c
  | 8, _, c => of_e (s := s217) (e217 ((8 : Nat) : Int)) rfl (by simp only [neg245]; rfl) c
  | 9, _, c => of_e (s := s217) (e217 ((9 : Nat) : Int)) rfl (by simp only [neg245]; rfl) c
  | 10, _, c => of_e (s := s217) (e217 ((10 : Nat) : Int)) rfl (by simp only [neg245]; rfl) c
  | 11, _, c => of_e (s := s217) (e217 ((11 : Nat) : Int)) rfl (by simp only [neg245]; rfl) c
  | 12, _, c => of_e (s := s217) (e217 ((12 : Nat) : Int)) rfl (by simp only [neg245]; rfl) c
  | 13, _, c => of_e (s := s217) (e217 ((13 : Nat) : Int)) rfl (by simp only [neg245]; rfl) c
  | 14, _, c => of_e (s := s217) (e217 ((14 : Nat) : Int)) rfl (by simp only [neg245]; rfl) c
  | 15, _, c => of_e (s := s217) (e217 ((15 : Nat) : Int)) rfl (by simp only [neg245]; rfl) c
  | n + 16, h, c => absurd h (by omega)
theorem mod145 (x : Int) (c) : k145 x c = c (((Int.tmod (IntKind.i64.wrap ((Int.tmod x (16 : Int)) + (16 : Int))) (16 : Int)), ()), ()) := of_e (s := s145) (e145 x) rfl rfl c
theorem q242 : ∀ (d : Nat), d < 20 → ∀ c, k242 (d : Int) c = c ((vecT (d % 16), ()), ())
  | 0, _, c => of_e (s := s242) (e242 ((0 : Nat) : Int)) rfl (by simp only [mod145]; rfl) c
  | 1, _, c => of_e (s := s242) (e242 ((1 : Nat) : Int)) rfl (by simp only [mod145]; rfl) c
  | 2, _, c => of_e (s := s242) (e242 ((2 : Nat) : Int)) rfl (by simp only [mod145]; rfl) c
  | 3, _, c => of_e (s := s242) (e242 ((3 : Nat) : Int)) rfl (by simp only [mod145]; rfl) c
  | 4, _, c => of_e (s := s242) (e242 ((4 : Nat) : Int)) rfl (by simp only [mod145]; rfl) c
  | 5, _, c => of_e (s := s242) (e242 ((5 : Nat) : Int)) rfl (by simp only [mod145]; rfl) c
  | 6, _, c => of_e (s := s242) (e242 ((6 : Nat) : Int)) rfl (by simp only [mod145]; rfl) c
  | 7, _, c => of_e (s := s242) (e242 ((7 : Nat) : Int)) rfl (by simp only [mod145]; rfl) c
  | 8, _, c => of_e (s := s242) (e242 ((8 : Nat) : Int)) rfl (by simp only [mod145]; rfl) c
  | 9, _, c => of_e (s := s242) (e242 ((9 : Nat) : Int)) rfl (by simp only [mod145]; rfl) c
  | 10, _, c => of_e (s := s242) (e242 ((10 : Nat) : Int)) rfl (by simp only [mod145]; rfl) c
  | 11, _, c => of_e (s := s242) (e242 ((11 : Nat) : Int)) rfl (by simp only [mod145]; rfl) c
  | 12, _, c => of_e (s := s242) (e242 ((12 : Nat) : Int)) rfl (by simp only [mod145]; rfl) c
  | 13, _, c => of_e (s := s242) (e242 ((13 : Nat) : Int)) rfl (by simp only [mod145]; rfl) c
  | 14, _, c => of_e (s := s242) (e242 ((14 : Nat) : Int)) rfl (by simp only [mod145]; rfl) c
  | 15, _, c => of_e (s := s242) (e242 ((15 : Nat) : Int)) rfl (by simp only [mod145]; rfl) c
  | 16, _, c => of_e (s := s242) (e242 ((16 : Nat) : Int)) rfl (by simp only [mod145]; rfl) c
  | 17, _, c => of_e (s := s242) (e242 ((17 : Nat) : Int)) rfl (by simp only [mod145]; rfl) c
  | 18, _, c => of_e (s := s242) (e242 ((18 : Nat) : Int)) rfl (by simp only [mod145]; rfl) c
  | 19, _, c => of_e (s := s242) (e242 ((19 : Nat) : Int)) rfl (by simp only [mod145]; rfl) c
  | n + 20, h, c => absurd h (by omega)
end Go.Vk.St
end

section
namespace Go.Vk.St
open Go Go.Proofs Go.Vk
set_option linter.unusedVariables false
set_option linter.unusedSimpArgs false
set_option maxRecDepth 100000

def mul2 (X Y : Int × Int) : Int × Int := (X.1 * Y.1 + 2 * X.2 * Y.2, X.1 * Y.2 + X.2 * Y.1)
def add2 (X Y : Int × Int) : Int × Int := (X.1 + Y.1, X.2 + Y.2)
theorem nmul {a b : Int} {M : Nat} (h1 : a.natAbs ≤ 1) (h2 : b.natAbs ≤ M) : a.natAbs * b.natAbs ≤ M := by
  have := Nat.mul_le_mul h1 h2; omega
theorem mul2_small {V W : Int × Int} {M : Nat} (hV : small 1 V) (hW : small M W) : small (3 * M) (mul2 V W) := by
  have h1 := nmul hV.1 hW.1; have h2 := nmul hV.2 hW.2; have h3 := nmul hV.1 hW.2; have h4 := nmul hV.2 hW.1
  rw [← Int.natAbs_mul] at h1 h2 h3 h4
  unfold small mul2
  rw [Int.mul_assoc]
  generalize V.1 * W.1 = p1 at *
  generalize V.2 * W.2 = p2 at *
  generalize V.1 * W.2 = p3 at *
  generalize V.2 * W.1 = p4 at *
  constructor <;> simp only <;> omega
theorem q246v {x y : U1} {V W : Int × Int} (hx : At 0 x V.1 V.2) (hy : At 10 y W.1 W.2) (hV : small 1 V) (hW : small 268435456 W) : ∃ z, At 10 z (mul2 V W).1 (mul2 V W).2 ∧ ∀ c, k246 x y c = c ((z, ()), ()) := by
  have h1 := nmul hV.1 hW.1; have h2 := nmul hV.2 hW.2; have h3 := nmul hV.1 hW.2; have h4 := nmul hV.2 hW.1
  have h5 := hV.2
  obtain ⟨z, hz, cz⟩ := q246 (s1 := 0) (s2 := 10) (by decide) hx hy (Nat.lt_of_le_of_lt h1 (by decide)) (Nat.lt_of_le_of_lt h2 (by decide)) (Nat.lt_of_le_of_lt h3 (by decide)) (Nat.lt_of_le_of_lt h4 (by decide)) (Nat.lt_of_le_of_lt h5 (by decide))
  exact ⟨z, hz, cz⟩
theorem q243v {x y : U1} {V W : Int × Int} (hx : At 0 x V.1 V.2) (hy : At 10 y W.1 W.2) (hV : small 1 V) (hW : small 268435456 W) : ∃ z, At 10 z (mul2 V W).1 (mul2 V W).2 ∧ ∀ c, k243 x y c = c ((z, ()), ()) := by
  have h1 := nmul hV.1 hW.1; have h2 := nmul hV.2 hW.2; have h3 := nmul hV.1 hW.2; have h4 := nmul hV.2 hW.1
  have h5 := hV.2
  obtain ⟨z, hz, cz⟩ := q243 (s1 := 0) (s2 := 10) (by decide) hx hy (Nat.lt_of_le_of_lt h1 (by decide)) (Nat.lt_of_le_of_lt h2 (by decide)) (Nat.lt_of_le_of_lt h3 (by decide)) (Nat.lt_of_le_of_lt h4 (by decide)) (Nat.lt_of_le_of_lt h5 (by decide))
  exact ⟨z, hz, cz⟩
theorem q219 {v w : U0} {VX VY X Y : Int × Int} (hv : PAt 0 v VX VY) (hw : PAt 10 w X Y) (h1 : small 1 VX) (h2 : small 1 VY) (h3 : small 268435456 X) (h4 : small 268435456 Y) :
    ∃ z, At 10 z (add2 (mul2 VX X) (mul2 VY Y)).1 (add2 (mul2 VX X) (mul2 VY Y)).2 ∧ ∀ c, k219 v w c = c ((z, ()), ()) := by
  obtain ⟨a, ha, ca⟩ := q246v hv.x hw.x h1 h3
  obtain ⟨b, hb, cb⟩ := q246v hv.y hw.y h2 h4
  obtain ⟨s1, s2⟩ := mul2_small h1 h3
  obtain ⟨s3, s4⟩ := mul2_small h2 h4
  obtain ⟨z, hz, cz⟩ := q247 (by decide) ha hb (Nat.lt_of_le_of_lt s1 (by decide)) (Nat.lt_of_le_of_lt s2 (by decide)) (Nat.lt_of_le_of_lt s3 (by decide)) (Nat.lt_of_le_of_lt s4 (by decide))
  exact ⟨z, hz, fun c => of_e (s := s219) (e219 v w) rfl (by simp only [ca, cb, cz]; rfl) c⟩
theorem q218 {v w : U0} {VX VY X Y : Int × Int} (hv : PAt 0 v VX VY) (hw : PAt 10 w X Y) (h1 : small 1 VX) (h2 : small 1 VY) (h3 : small 268435456 X) (h4 : small 268435456 Y) :
    ∃ z, At 10 z (sub2 (mul2 VX Y) (mul2 VY X)).1 (sub2 (mul2 VX Y) (mul2 VY X)).2 ∧ ∀ c, k218 v w c = c ((z, ()), ()) := by
  obtain ⟨a, ha, ca⟩ := q246v hv.x hw.y h1 h4
  obtain ⟨b, hb, cb⟩ := q246v hv.y hw.x h2 h3
  obtain ⟨s1, s2⟩ := mul2_small h1 h4
  obtain ⟨s3, s4⟩ := mul2_small h2 h3
  obtain ⟨z, hz, cz⟩ := q244 (by decide) ha hb (Nat.lt_of_le_of_lt s1 (by decide)) (Nat.lt_of_le_of_lt s2 (by decide)) (Nat.lt_of_le_of_lt s3 (by decide)) (Nat.lt_of_le_of_lt s4 (by decide))
  exact ⟨z, hz, fun c => of_e (s := s218) (e218 v w) rfl (by simp only [ca, cb, cz]; rfl) c⟩
end Go.Vk.St
end

section
namespace Go.Vk.St
open Go Go.Proofs Go.Vk
set_option linter.unusedVariables false
set_option linter.unusedSimpArgs false
set_option maxRecDepth 100000

theorem q212 (x : U1) (c) : k212 x c = c ((x, ()), ()) := of_e (s := s212) (e212 x) rfl rfl c
theorem q182 (x : U0) (c) : k182 x c = c ((x, ()), ()) := of_e (s := s182) (e182 x) rfl (by simp only [q212]; rfl) c
def vX (d : Nat) : Int × Int := VX.getD (d % 16) (0, 0)
def vY (d : Nat) : Int × Int := VY.getD (d % 16) (0, 0)
theorem v_small (d : Nat) : small 1 (vX d) ∧ small 1 (vY d) := by
  have h : d % 16 < 16 := Nat.mod_lt _ (by decide)
  unfold vX vY small
  generalize d % 16 = e at h
  have : ∀ e : Fin 16, ((VX.getD e (0, 0)).1.natAbs ≤ 1 ∧ (VX.getD e (0, 0)).2.natAbs ≤ 1) ∧ ((VY.getD e (0, 0)).1.natAbs ≤ 1 ∧ (VY.getD e (0, 0)).2.natAbs ≤ 1) := by decide
  exact this ⟨e, h⟩
def dot2 (d : Nat) (X Y : Int × Int) : Int × Int := add2 (mul2 (vX d) X) (mul2 (vY d) Y)
theorem q214 {d : Nat} (hd : d < 20) {w : U0} {X Y : Int × Int} (hw : PAt 10 w X Y) (h3 : small 268435456 X) (h4 : small 268435456 Y) :
    ∃ z, At 10 z (dot2 d X Y).1 (dot2 d X Y).2 ∧ ∀ c, k214 d w c = c ((z, ()), ()) := by
  obtain ⟨h1, h2⟩ := v_small d
  have hv := vecT_at (d % 16)
  obtain ⟨a, ha, ca⟩ := q243v (V := vX d) hv.x hw.x h1 h3
  obtain ⟨b, hb, cb⟩ := q243v (V := vY d) hv.y hw.y h2 h4
  obtain ⟨s1, s2⟩ := mul2_small h1 h3
  obtain ⟨s3, s4⟩ := mul2_small h2 h4
  obtain ⟨z, hz, cz⟩ := q240 (by decide) ha hb (Nat.lt_of_le_of_lt s1 (by decide)) (Nat.lt_of_le_of_lt s2 (by decide)) (Nat.lt_of_le_of_lt s3 (by decide)) (Nat.lt_of_le_of_lt s4 (by decide))
  refine ⟨z, hz, fun c => of_e (s := s214) (e214 _ w) rfl ?_ c⟩
  have hq := q242 d hd
  simp only [hq, q182, ca, cb, cz]
  rfl
theorem q213 {s : Nat} {x : U1} {A B : Int} (h : At s x A B) (c) : k213 x c = c ((decide (A = 0 ∧ B = 0), ()), ()) := by
  refine of_e (s := s213) (e213 x) rfl ?_ c
  obtain ⟨k, _, _, h3, h4, _⟩ := h
  have hp : (2 : Int) ^ (s - k) ≠ 0 := Int.pow_ne_zero (by decide)
  simp only [beqD]
  by_cases ha : x.1 = 0
  · by_cases hb : x.2.1 = 0
    · rw [decide_eq_true ha, decide_eq_true hb, decide_eq_true (show A = 0 ∧ B = 0 by rw [h3, h4, ha, hb]; simp)]; rfl
    · rw [decide_eq_true ha, decide_eq_false hb, decide_eq_false (show ¬ (A = 0 ∧ B = 0) from fun e => by rw [h4] at e; rcases Int.mul_eq_zero.1 e.2 with e | e <;> contradiction)]; rfl
  · rw [decide_eq_false ha, decide_eq_false (show ¬ (A = 0 ∧ B = 0) from fun e => by rw [h3] at e; rcases Int.mul_eq_zero.1 e.1 with e | e <;> contradiction)]; rfl
end Go.Vk.St
end

section
namespace Go.Vk.St
open Go Go.Proofs Go.Vk
set_option linter.unusedVariables false
set_option linter.unusedSimpArgs false
set_option maxRecDepth 100000

theorem rot (d : Nat) (h : d < 16) : vX (d + 4) = (-(vY d).1, -(vY d).2) ∧ vY (d + 4) = vX d := by
  have : ∀ e : Fin 16, vX (e + 4) = (-(vY e).1, -(vY e).2) ∧ vY (e + 4) = vX e := by decide
  exact this ⟨d, h⟩
theorem cross_dot (d : Nat) (h : d < 16) (X Y : Int × Int) : sub2 (mul2 (vX d) Y) (mul2 (vY d) X) = dot2 (d + 4) X Y := by
  obtain ⟨h1, h2⟩ := rot d h
  unfold dot2
  rw [h1, h2]
  unfold sub2 add2 mul2
  simp only [Int.neg_mul, Int.mul_neg]
  refine Prod.ext ?_ ?_ <;> simp only <;> omega
/-- The first direction that fits, from one on. -/
def dirN : Nat → Nat → Int × Int → Int × Int → Int
  | 0, _, _, _ => -1
  | m + 1, d, X, Y => bif decide ((dot2 (d + 4) X Y).1 = 0 ∧ (dot2 (d + 4) X Y).2 = 0) then (bif decide (sgn (dot2 d X Y).1 (dot2 d X Y).2 > 0) then (d : Int) else dirN m (d + 1) X Y) else dirN m (d + 1) X Y
theorem dot2_lt {d : Nat} {X Y : Int × Int} (h3 : small 268435456 X) (h4 : small 268435456 Y) : (dot2 d X Y).1.natAbs < 2147483648 ∧ (dot2 d X Y).2.natAbs < 2147483648 := by
  obtain ⟨h1, h2⟩ := v_small d
  obtain ⟨s1, s2⟩ := mul2_small h1 h3
  obtain ⟨s3, s4⟩ := mul2_small h2 h4
  unfold dot2 add2
  constructor <;> simp only <;> omega
theorem l180 {w : U0} {X Y : Int × Int} (hw : PAt 10 w X Y) (h3 : small 268435456 X) (h4 : small 268435456 Y) : ∀ (m d : Nat), d + m = 16 → L180_4 d w.1.1 w.1.2.1 w.1.2.2 w.2.1 w.2.2.1 w.2.2.2 = some (s180.E ((dirN m d X Y, ()), ()))
  | 0, d, h => by
    have : d = 16 := by omega
    subst this
    exact of_l (l180_4 _ _ _ _ _ _ _) rfl
  | m + 1, d, h => by
    refine of_l (l180_4 _ _ _ _ _ _ _) ?_
    have hd : d < 16 := by omega
    have hdI : decide ((d : Int) < 16) = true := decide_eq_true (by omega)
    have e4 : IntKind.i64.wrap ((d : Int) + 4) = ((d + 4 : Nat) : Int) := by rw [wrap64 (by omega) (by omega)]; omega
    obtain ⟨z, hz, cz⟩ := q214 (d := d + 4) (by omega) hw h3 h4
    obtain ⟨y, hy, cy⟩ := q214 (d := d) (by omega) hw h3 h4
    have q1 := q213 hz
    have q2 := q210a hy (dot2_lt h3 h4).1 (dot2_lt h3 h4).2
    have ih := l180 hw h3 h4 m (d + 1) (by omega)
    have cz' : ∀ c, k214 ((d + 4 : Nat) : Int) ((w.1.1, w.1.2.1, w.1.2.2), (w.2.1, w.2.2.1, w.2.2.2)) c = c ((z, ()), ()) := cz
    have cy' : ∀ c, k214 (d : Int) ((w.1.1, w.1.2.1, w.1.2.2), (w.2.1, w.2.2.1, w.2.2.2)) c = c ((y, ()), ()) := cy
    simp only [hdI, cond_true, e4, cz', q1, cy', q2, wrap_add1 (show d < 4611686018427387904 by omega), ih]
    rw [show dirN (m + 1) d X Y = (bif decide ((dot2 (d + 4) X Y).1 = 0 ∧ (dot2 (d + 4) X Y).2 = 0) then (bif decide (sgn (dot2 d X Y).1 (dot2 d X Y).2 > 0) then (d : Int) else dirN m (d + 1) X Y) else dirN m (d + 1) X Y) from rfl]
    generalize dirN m (d + 1) X Y = t
    cases decide ((dot2 (d + 4) X Y).1 = 0 ∧ (dot2 (d + 4) X Y).2 = 0)
    · rfl
    · cases decide (sgn (dot2 d X Y).1 (dot2 d X Y).2 > 0) <;> rfl
theorem q180 {w : U0} {X Y : Int × Int} (hw : PAt 10 w X Y) (h3 : small 268435456 X) (h4 : small 268435456 Y) (c) : k180 w c = c ((dirN 16 0 X Y, ()), ()) :=
  of_e (s := s180) (e180 w) rfl (l180 hw h3 h4 16 0 rfl) c
theorem l186 {w : U0} {X Y : Int × Int} (hw : PAt 10 w X Y) (h3 : small 268435456 X) (h4 : small 268435456 Y) : ∀ (m d : Nat), d + m = 16 → L186_6 d w.1.1 w.1.2.1 w.1.2.2 w.2.1 w.2.2.1 w.2.2.2 = some (s186.E ((dirN m d X Y, ()), ()))
  | 0, d, h => by
    have : d = 16 := by omega
    subst this
    exact of_l (l186_6 _ _ _ _ _ _ _) rfl
  | m + 1, d, h => by
    refine of_l (l186_6 _ _ _ _ _ _ _) ?_
    have hd : d < 16 := by omega
    have hdI : decide ((d : Int) < 16) = true := decide_eq_true (by omega)
    have ed : d % 16 = d := Nat.mod_eq_of_lt hd
    have hv : PAt 0 (vecT d) (vX d) (vY d) := by unfold vX vY; rw [ed]; exact vecT_at d
    obtain ⟨h1, h2⟩ := v_small d
    obtain ⟨z, hz, cz⟩ := q218 hv hw h1 h2 h3 h4
    rw [cross_dot d hd] at hz
    obtain ⟨y, hy, cy⟩ := q219 hv hw h1 h2 h3 h4
    have q1 := hz.zero
    have q2 := q220a (A := (dot2 d X Y).1) (B := (dot2 d X Y).2) hy (dot2_lt h3 h4).1 (dot2_lt h3 h4).2
    have ih := l186 hw h3 h4 m (d + 1) (by omega)
    have cz' : ∀ c, k218 (vecT d) ((w.1.1, w.1.2.1, w.1.2.2), (w.2.1, w.2.2.1, w.2.2.2)) c = c ((z, ()), ()) := cz
    have cy' : ∀ c, k219 (vecT d) ((w.1.1, w.1.2.1, w.1.2.2), (w.2.1, w.2.2.1, w.2.2.2)) c = c ((y, ()), ()) := cy
    have cv := q217 d hd
    simp only [hdI, cond_true, cv, cz', q1, cy', q2, wrap_add1 (show d < 4611686018427387904 by omega), ih]
    rw [show dirN (m + 1) d X Y = (bif decide ((dot2 (d + 4) X Y).1 = 0 ∧ (dot2 (d + 4) X Y).2 = 0) then (bif decide (sgn (dot2 d X Y).1 (dot2 d X Y).2 > 0) then (d : Int) else dirN m (d + 1) X Y) else dirN m (d + 1) X Y) from rfl]
    generalize dirN m (d + 1) X Y = t
    cases decide ((dot2 (d + 4) X Y).1 = 0 ∧ (dot2 (d + 4) X Y).2 = 0)
    · rfl
    · cases decide (sgn (dot2 d X Y).1 (dot2 d X Y).2 > 0) <;> rfl
end Go.Vk.St
end

section
namespace Go.Vk.St
open Go Go.Proofs Go.Vk
set_option linter.unusedVariables false
set_option linter.unusedSimpArgs false
set_option maxRecDepth 100000
theorem sub2_small {X Y : Int × Int} (h1 : small 134217728 X) (h2 : small 134217728 Y) : small 268435456 (sub2 X Y) := by
  obtain ⟨a, b⟩ := h1
  obtain ⟨c, d⟩ := h2
  unfold sub2
  constructor <;> simp only <;> omega
/-- The direction from a point to another. -/
def dirP (X1 Y1 X2 Y2 : Int × Int) : Int := dirN 16 0 (sub2 X2 X1) (sub2 Y2 Y1)
theorem q186 {p q : U0} {X1 Y1 X2 Y2 : Int × Int} (hp : PAt 10 p X1 Y1) (hq : PAt 10 q X2 Y2) (b1 : small 134217728 X1) (b2 : small 134217728 Y1) (b3 : small 134217728 X2) (b4 : small 134217728 Y2) (c) : k186 p q c = c ((dirP X1 Y1 X2 Y2, ()), ()) := by
  obtain ⟨z, hz, cz⟩ := q216 hq hp b3 b4 b1 b2
  refine of_e (s := s186) (e186 p q) rfl ?_ c
  simp only [cz]
  exact l186 hz (sub2_small b3 b1) (sub2_small b4 b2) 16 0 rfl
theorem dirN_range : ∀ (m d : Nat) (X Y : Int × Int), d + m = 16 → dirN m d X Y = -1 ∨ (0 ≤ dirN m d X Y ∧ dirN m d X Y < 16)
  | 0, d, X, Y, h => .inl rfl
  | m + 1, d, X, Y, h => by
    have ih := dirN_range m (d + 1) X Y (by omega)
    rw [show dirN (m + 1) d X Y = (bif decide ((dot2 (d + 4) X Y).1 = 0 ∧ (dot2 (d + 4) X Y).2 = 0) then (bif decide (sgn (dot2 d X Y).1 (dot2 d X Y).2 > 0) then (d : Int) else dirN m (d + 1) X Y) else dirN m (d + 1) X Y) from rfl]
    cases decide ((dot2 (d + 4) X Y).1 = 0 ∧ (dot2 (d + 4) X Y).2 = 0)
    · exact ih
    · cases decide (sgn (dot2 d X Y).1 (dot2 d X Y).2 > 0)
      · exact ih
      · right; show 0 ≤ (d : Int) ∧ (d : Int) < 16; omega
end Go.Vk.St
end

section
namespace Go.Vk.St
open Go Go.Proofs Go.Vk
set_option linter.unusedVariables false
set_option linter.unusedSimpArgs false
set_option maxRecDepth 100000
theorem q184 (x : U0) (c) : k184 x c = c ((!(valP x), ()), ()) := of_e (s := s184) (e184 x) rfl (by simp only [q185]; rfl) c
/-- All points from one on are valid. -/
def allV (x : Sl U0) : Nat → Nat → Bool
  | _, 0 => true
  | i, m + 1 => valP (x.get i) && allV x (i + 1) m
theorem l215 (x : Sl U0) (hn : x.n ≤ 1048576) : ∀ (m i : Nat), i + m = x.n → ∃ t : Int, L215c184_4 x ((x.n : Nat) : Int) i = some (s215.E ((t, ()), ())) ∧ (t ≥ 0 ↔ allV x i m = false)
  | 0, i, h => by
    have : i = x.n := by omega
    subst this
    exact ⟨-1, of_l (l215c184_4 _ _ _) (by simp only [Int.lt_irrefl, decide_false, cond_false]), by simp [allV]⟩
  | m + 1, i, h => by
    have hi : i < x.n := by omega
    obtain ⟨t, h1, h2⟩ := l215 x hn m (i + 1) (by omega)
    cases hv : valP (x.get i) with
    | true =>
      refine ⟨t, of_l (l215c184_4 _ _ _) ?_, by simp only [allV, hv, Bool.true_and]; exact h2⟩
      simp only [Int.ofNat_lt, hi, decide_true, cond_true, Int.natCast_nonneg, if_true, Int.toNat_natCast, q184, hv, Bool.not_true, cond_false, wrap_add1 (show i < 4611686018427387904 by omega)]
      exact h1
    | false =>
      refine ⟨(i : Int), of_l (l215c184_4 _ _ _) ?_, by simp only [allV, hv, Bool.false_and]; simp⟩
      simp only [Int.ofNat_lt, hi, decide_true, cond_true, Int.natCast_nonneg, if_true, Int.toNat_natCast, q184, hv, Bool.not_false]
theorem q147 (x : Sl U0) (hn : x.n ≤ 1048576) (c) : k147 x c = c ((allV x 0 x.n, ()), ()) := by
  obtain ⟨t, h1, h2⟩ := l215 x hn x.n 0 (by omega)
  have c215' : ∀ c, c215 [svl tS0 x, .fn 184 []] c = c ((t, ()), ()) := fun c => of_e (s := s215) (e215c184 x) rfl h1 c
  have c183' : ∀ c, c183 [svl tS0 x, .fn 184 []] c = c ((decide (t ≥ 0), ()), ()) := fun c => of_e (s := s183) (e183c184 x) rfl (by simp only [c215']; rfl) c
  refine of_e (s := s147) (e147 x) rfl ?_ c
  simp only [c183']
  cases hv : allV x 0 x.n with
  | true => rw [decide_eq_false (show ¬ t ≥ 0 by rw [h2, hv]; simp)]; rfl
  | false => rw [decide_eq_true (show t ≥ 0 from h2.2 hv)]; rfl
end Go.Vk.St
end

section
/- Numbers a + b sqrt 2 with rational a and b: an ordered field. -/
namespace Go.Q
set_option linter.unusedSimpArgs false
set_option linter.unusedVariables false

structure Q where
  a : Rat
  b : Rat

namespace Q
theorem ext' {x y : Q} (h1 : x.a = y.a) (h2 : x.b = y.b) : x = y := by
  cases x; cases y; cases h1; cases h2; rfl
instance : Add Q := ⟨fun x y => ⟨x.a + y.a, x.b + y.b⟩⟩
instance : Neg Q := ⟨fun x => ⟨-x.a, -x.b⟩⟩
instance : Sub Q := ⟨fun x y => ⟨x.a - y.a, x.b - y.b⟩⟩
instance : Mul Q := ⟨fun x y => ⟨x.a * y.a + 2 * (x.b * y.b), x.a * y.b + x.b * y.a⟩⟩
instance : OfNat Q 0 := ⟨⟨0, 0⟩⟩
instance : OfNat Q 1 := ⟨⟨1, 0⟩⟩
theorem add_a (x y : Q) : (x + y).a = x.a + y.a := rfl
theorem add_b (x y : Q) : (x + y).b = x.b + y.b := rfl
theorem neg_a (x : Q) : (-x).a = -x.a := rfl
theorem neg_b (x : Q) : (-x).b = -x.b := rfl
theorem sub_a (x y : Q) : (x - y).a = x.a - y.a := rfl
theorem sub_b (x y : Q) : (x - y).b = x.b - y.b := rfl
theorem mul_a (x y : Q) : (x * y).a = x.a * y.a + 2 * (x.b * y.b) := rfl
theorem mul_b (x y : Q) : (x * y).b = x.a * y.b + x.b * y.a := rfl
theorem zero_a : (0 : Q).a = 0 := rfl
theorem zero_b : (0 : Q).b = 0 := rfl
theorem one_a : (1 : Q).a = 1 := rfl
theorem one_b : (1 : Q).b = 0 := rfl

theorem rsq {a c : Rat} (hc : 0 ≤ c) (h : a * a < c * c) : a < c ∧ -c < a := by
  constructor
  · refine Rat.not_le.1 fun h1 => ?_
    have h2 : 0 ≤ a - c := by grind
    have h3 : 0 ≤ a + c := by grind
    have := Rat.mul_nonneg h2 h3
    grind
  · refine Rat.not_le.1 fun h1 => ?_
    have h2 : 0 ≤ -a - c := by grind
    have h3 : 0 ≤ c - a := by grind
    have := Rat.mul_nonneg h2 h3
    grind
theorem irrN : ∀ (n m : Nat), n * n = 2 * (m * m) → n = 0 := by
  intro n
  induction n using Nat.strongRecOn with
  | ind n ih =>
    intro m h
    rcases Nat.eq_zero_or_pos n with h0 | h0
    · exact h0
    · have he : n % 2 = 0 := by
        rcases Nat.mod_two_eq_zero_or_one n with e | e
        · exact e
        · have : n * n % 2 = 1 := by rw [Nat.mul_mod, e]
          omega
      obtain ⟨p, rfl⟩ : ∃ p, n = 2 * p := ⟨n / 2, by omega⟩
      have h1 : m * m = 2 * (p * p) := by
        have : 2 * p * (2 * p) = 4 * (p * p) := by rw [Nat.mul_mul_mul_comm]
        omega
      have hm : m < 2 * p := by
        rcases Nat.lt_or_ge m (2 * p) with h | h
        · exact h
        · have := Nat.mul_le_mul h h
          have h4 : 2 * p * (2 * p) = 4 * (p * p) := by rw [Nat.mul_mul_mul_comm]
          have : 0 < p * p := Nat.mul_pos (by omega) (by omega)
          omega
      have := ih m hm p h1
      subst this
      have : p * p = 0 := by omega
      rcases Nat.mul_eq_zero.1 this with e | e <;> omega
theorem irrZ {n m : Int} (h : n * n = 2 * (m * m)) : n = 0 := by
  have h1 := congrArg Int.natAbs h
  rw [Int.natAbs_mul, Int.natAbs_mul, Int.natAbs_mul] at h1
  have := irrN _ _ h1
  omega
theorem sq_nn (a : Rat) : 0 ≤ a * a := by
  rcases (Rat.le_total (a := 0) (b := a)) with h | h
  · exact Rat.mul_nonneg h h
  · have := Rat.mul_nonneg (show 0 ≤ -a by grind) (show 0 ≤ -a by grind)
    grind
theorem num_eq (a : Rat) : (a.num : Rat) = a * ((a.den : Int) : Rat) := by
  have h := Rat.num_divInt_den a
  have h1 : ((a.den : Int) : Rat) ≠ 0 := by
    intro e
    have := Rat.intCast_inj.1 (e.trans (show (0 : Rat) = ((0 : Int) : Rat) from rfl))
    have := a.den_nz
    omega
  rw [Rat.divInt_eq_div] at h
  have h2 : (a.num : Rat) = ((a.num : Rat) / ((a.den : Int) : Rat)) * ((a.den : Int) : Rat) := by grind
  rw [h] at h2; exact h2
theorem den_ne (a : Rat) : ((a.den : Int) : Rat) ≠ 0 := by
  intro e
  have := Rat.intCast_inj.1 (e.trans (show (0 : Rat) = ((0 : Int) : Rat) from rfl))
  have := a.den_nz
  omega
theorem irr {a b : Rat} (h : a * a = 2 * (b * b)) : a = 0 ∧ b = 0 := by
  have n1 := num_eq a
  have n2 := num_eq b
  have d1 := den_ne a
  have d2 := den_ne b
  have h5 : (((a.num * b.den) * (a.num * b.den) : Int) : Rat) = ((2 * ((b.num * a.den) * (b.num * a.den)) : Int) : Rat) := by
    simp only [Rat.intCast_mul]
    rw [n1, n2]
    have : ((2 : Int) : Rat) = 2 := rfl
    rw [this]
    grind
  have h6 := irrZ (Rat.intCast_inj.1 h5)
  have h7 : a = 0 := by
    have h8 : ((a.num * b.den : Int) : Rat) = ((0 : Int) : Rat) := by rw [h6]
    rw [Rat.intCast_mul, n1] at h8
    have : ((0 : Int) : Rat) = 0 := rfl
    rw [this] at h8
    grind
  refine ⟨h7, ?_⟩
  subst h7
  have : b * b = 0 := by grind
  grind

/-- Greater than 0. -/
def Pos (x : Q) : Prop := (0 < x.a ∧ 2 * (x.b * x.b) < x.a * x.a) ∨ (0 < x.b ∧ x.a * x.a < 2 * (x.b * x.b))

theorem pos_mul {x y : Q} (hx : Pos x) (hy : Pos y) : Pos (x * y) := by
  obtain ⟨a, b⟩ := x
  obtain ⟨c, d⟩ := y
  unfold Pos at *
  simp only [mul_a, mul_b] at *
  rcases hx with ⟨h1, h2⟩ | ⟨h1, h2⟩ <;> rcases hy with ⟨h3, h4⟩ | ⟨h3, h4⟩
  · left
    have e1 := Rat.mul_pos (show 0 < a * a - 2 * (b * b) by grind) (show 0 < c * c - 2 * (d * d) by grind)
    have e2 := Rat.mul_pos h1 h3
    have e3 := Rat.mul_nonneg (sq_nn b) (sq_nn d)
    have e4 := Rat.mul_nonneg (show 0 ≤ a * a - 2 * (b * b) by grind) (sq_nn d)
    have e5 := Rat.mul_pos (show 0 < c * c - 2 * (d * d) by grind) (Rat.mul_pos h1 h1)
    have e6 := rsq (a := 2 * (b * d)) (c := a * c) (by grind) (by grind)
    constructor
    · grind
    · grind
  · right
    have e1 := Rat.mul_pos (show 0 < a * a - 2 * (b * b) by grind) (show 0 < 2 * (d * d) - c * c by grind)
    have e2 := Rat.mul_pos h1 h3
    have e4 := Rat.mul_nonneg (show 0 ≤ a * a - 2 * (b * b) by grind) (sq_nn c)
    have e5 := Rat.mul_pos (show 0 < 2 * (d * d) - c * c by grind) (Rat.mul_pos h1 h1)
    have e6 := rsq (a := b * c) (c := a * d) (by grind) (by grind)
    constructor
    · grind
    · grind
  · right
    have e1 := Rat.mul_pos (show 0 < 2 * (b * b) - a * a by grind) (show 0 < c * c - 2 * (d * d) by grind)
    have e2 := Rat.mul_pos h1 h3
    have e4 := Rat.mul_nonneg (show 0 ≤ c * c - 2 * (d * d) by grind) (sq_nn a)
    have e5 := Rat.mul_pos (show 0 < 2 * (b * b) - a * a by grind) (Rat.mul_pos h3 h3)
    have e6 := rsq (a := a * d) (c := b * c) (by grind) (by grind)
    constructor
    · grind
    · grind
  · left
    have e1 := Rat.mul_pos (show 0 < 2 * (b * b) - a * a by grind) (show 0 < 2 * (d * d) - c * c by grind)
    have e2 := Rat.mul_pos h1 h3
    have e4 := Rat.mul_nonneg (show 0 ≤ 2 * (b * b) - a * a by grind) (sq_nn c)
    have e5 := Rat.mul_pos (show 0 < 2 * (d * d) - c * c by grind) (Rat.mul_pos h1 h1)
    have e6 := rsq (a := a * c) (c := 2 * (b * d)) (by grind) (by grind)
    constructor
    · grind
    · grind
end Q
end Go.Q
end

section
namespace Go.Q
set_option linter.unusedSimpArgs false
set_option linter.unusedVariables false
namespace Q
theorem not_pos_zero : ¬ Pos 0 := by
  unfold Pos
  simp only [zero_a, zero_b]
  grind
theorem not_both {x : Q} (h : Pos x) (h' : Pos (-x)) : False := by
  unfold Pos at *
  simp only [neg_a, neg_b] at *
  grind
theorem tri (x : Q) : Pos x ∨ x = 0 ∨ Pos (-x) := by
  obtain ⟨a, b⟩ := x
  unfold Pos
  simp only [neg_a, neg_b]
  rcases (Rat.le_total (a := a * a) (b := 2 * (b * b))) with h | h
  · by_cases e : a * a = 2 * (b * b)
    · obtain ⟨rfl, rfl⟩ := irr e
      exact .inr (.inl rfl)
    · have h' : a * a < 2 * (b * b) := by grind
      by_cases hb : 0 < b
      · exact .inl (.inr ⟨hb, h'⟩)
      · have : b ≠ 0 := by
          rintro rfl
          have := sq_nn a
          grind
        exact .inr (.inr (.inr ⟨by grind, by grind⟩))
  · by_cases e : a * a = 2 * (b * b)
    · obtain ⟨rfl, rfl⟩ := irr e
      exact .inr (.inl rfl)
    · have h' : 2 * (b * b) < a * a := by grind
      by_cases ha : 0 < a
      · exact .inl (.inl ⟨ha, h'⟩)
      · have : a ≠ 0 := by
          rintro rfl
          have := sq_nn b
          grind
        exact .inr (.inr (.inl ⟨by grind, by grind⟩))
theorem add_comm (x y : Q) : x + y = y + x := by (refine Q.ext' ?_ ?_ <;> simp only [Q.add_a, Q.add_b, Q.mul_a, Q.mul_b, Q.neg_a, Q.neg_b, Q.sub_a, Q.sub_b, Q.zero_a, Q.zero_b, Q.one_a, Q.one_b] <;> grind)
theorem add_assoc (x y z : Q) : x + y + z = x + (y + z) := by (refine Q.ext' ?_ ?_ <;> simp only [Q.add_a, Q.add_b, Q.mul_a, Q.mul_b, Q.neg_a, Q.neg_b, Q.sub_a, Q.sub_b, Q.zero_a, Q.zero_b, Q.one_a, Q.one_b] <;> grind)
theorem mul_comm (x y : Q) : x * y = y * x := by (refine Q.ext' ?_ ?_ <;> simp only [Q.add_a, Q.add_b, Q.mul_a, Q.mul_b, Q.neg_a, Q.neg_b, Q.sub_a, Q.sub_b, Q.zero_a, Q.zero_b, Q.one_a, Q.one_b] <;> grind)
theorem mul_assoc (x y z : Q) : x * y * z = x * (y * z) := by (refine Q.ext' ?_ ?_ <;> simp only [Q.add_a, Q.add_b, Q.mul_a, Q.mul_b, Q.neg_a, Q.neg_b, Q.sub_a, Q.sub_b, Q.zero_a, Q.zero_b, Q.one_a, Q.one_b] <;> grind)
theorem mul_one (x : Q) : x * 1 = x := by (refine Q.ext' ?_ ?_ <;> simp only [Q.add_a, Q.add_b, Q.mul_a, Q.mul_b, Q.neg_a, Q.neg_b, Q.sub_a, Q.sub_b, Q.zero_a, Q.zero_b, Q.one_a, Q.one_b] <;> grind)
theorem one_mul (x : Q) : 1 * x = x := by (refine Q.ext' ?_ ?_ <;> simp only [Q.add_a, Q.add_b, Q.mul_a, Q.mul_b, Q.neg_a, Q.neg_b, Q.sub_a, Q.sub_b, Q.zero_a, Q.zero_b, Q.one_a, Q.one_b] <;> grind)
theorem mul_zero (x : Q) : x * 0 = 0 := by (refine Q.ext' ?_ ?_ <;> simp only [Q.add_a, Q.add_b, Q.mul_a, Q.mul_b, Q.neg_a, Q.neg_b, Q.sub_a, Q.sub_b, Q.zero_a, Q.zero_b, Q.one_a, Q.one_b] <;> grind)
theorem zero_mul (x : Q) : 0 * x = 0 := by (refine Q.ext' ?_ ?_ <;> simp only [Q.add_a, Q.add_b, Q.mul_a, Q.mul_b, Q.neg_a, Q.neg_b, Q.sub_a, Q.sub_b, Q.zero_a, Q.zero_b, Q.one_a, Q.one_b] <;> grind)
theorem add_zero (x : Q) : x + 0 = x := by (refine Q.ext' ?_ ?_ <;> simp only [Q.add_a, Q.add_b, Q.mul_a, Q.mul_b, Q.neg_a, Q.neg_b, Q.sub_a, Q.sub_b, Q.zero_a, Q.zero_b, Q.one_a, Q.one_b] <;> grind)
theorem zero_add (x : Q) : 0 + x = x := by (refine Q.ext' ?_ ?_ <;> simp only [Q.add_a, Q.add_b, Q.mul_a, Q.mul_b, Q.neg_a, Q.neg_b, Q.sub_a, Q.sub_b, Q.zero_a, Q.zero_b, Q.one_a, Q.one_b] <;> grind)
theorem sub_self (x : Q) : x - x = 0 := by (refine Q.ext' ?_ ?_ <;> simp only [Q.add_a, Q.add_b, Q.mul_a, Q.mul_b, Q.neg_a, Q.neg_b, Q.sub_a, Q.sub_b, Q.zero_a, Q.zero_b, Q.one_a, Q.one_b] <;> grind)
theorem neg_neg (x : Q) : - -x = x := by (refine Q.ext' ?_ ?_ <;> simp only [Q.add_a, Q.add_b, Q.mul_a, Q.mul_b, Q.neg_a, Q.neg_b, Q.sub_a, Q.sub_b, Q.zero_a, Q.zero_b, Q.one_a, Q.one_b] <;> grind)
theorem neg_zero : -(0 : Q) = 0 := by (refine Q.ext' ?_ ?_ <;> simp only [Q.add_a, Q.add_b, Q.mul_a, Q.mul_b, Q.neg_a, Q.neg_b, Q.sub_a, Q.sub_b, Q.zero_a, Q.zero_b, Q.one_a, Q.one_b] <;> grind)
theorem neg_sub (x y : Q) : -(x - y) = y - x := by (refine Q.ext' ?_ ?_ <;> simp only [Q.add_a, Q.add_b, Q.mul_a, Q.mul_b, Q.neg_a, Q.neg_b, Q.sub_a, Q.sub_b, Q.zero_a, Q.zero_b, Q.one_a, Q.one_b] <;> grind)
theorem mul_neg (x y : Q) : x * -y = -(x * y) := by (refine Q.ext' ?_ ?_ <;> simp only [Q.add_a, Q.add_b, Q.mul_a, Q.mul_b, Q.neg_a, Q.neg_b, Q.sub_a, Q.sub_b, Q.zero_a, Q.zero_b, Q.one_a, Q.one_b] <;> grind)
theorem neg_mul (x y : Q) : -x * y = -(x * y) := by (refine Q.ext' ?_ ?_ <;> simp only [Q.add_a, Q.add_b, Q.mul_a, Q.mul_b, Q.neg_a, Q.neg_b, Q.sub_a, Q.sub_b, Q.zero_a, Q.zero_b, Q.one_a, Q.one_b] <;> grind)
theorem mul_add (x y z : Q) : x * (y + z) = x * y + x * z := by (refine Q.ext' ?_ ?_ <;> simp only [Q.add_a, Q.add_b, Q.mul_a, Q.mul_b, Q.neg_a, Q.neg_b, Q.sub_a, Q.sub_b, Q.zero_a, Q.zero_b, Q.one_a, Q.one_b] <;> grind)
theorem add_mul (x y z : Q) : (x + y) * z = x * z + y * z := by (refine Q.ext' ?_ ?_ <;> simp only [Q.add_a, Q.add_b, Q.mul_a, Q.mul_b, Q.neg_a, Q.neg_b, Q.sub_a, Q.sub_b, Q.zero_a, Q.zero_b, Q.one_a, Q.one_b] <;> grind)
theorem mul_sub (x y z : Q) : x * (y - z) = x * y - x * z := by (refine Q.ext' ?_ ?_ <;> simp only [Q.add_a, Q.add_b, Q.mul_a, Q.mul_b, Q.neg_a, Q.neg_b, Q.sub_a, Q.sub_b, Q.zero_a, Q.zero_b, Q.one_a, Q.one_b] <;> grind)
theorem sub_mul (x y z : Q) : (x - y) * z = x * z - y * z := by (refine Q.ext' ?_ ?_ <;> simp only [Q.add_a, Q.add_b, Q.mul_a, Q.mul_b, Q.neg_a, Q.neg_b, Q.sub_a, Q.sub_b, Q.zero_a, Q.zero_b, Q.one_a, Q.one_b] <;> grind)
theorem neg_add (x y : Q) : -(x + y) = -x + -y := by (refine Q.ext' ?_ ?_ <;> simp only [Q.add_a, Q.add_b, Q.mul_a, Q.mul_b, Q.neg_a, Q.neg_b, Q.sub_a, Q.sub_b, Q.zero_a, Q.zero_b, Q.one_a, Q.one_b] <;> grind)
theorem sub_zero (x : Q) : x - 0 = x := by (refine Q.ext' ?_ ?_ <;> simp only [Q.add_a, Q.add_b, Q.mul_a, Q.mul_b, Q.neg_a, Q.neg_b, Q.sub_a, Q.sub_b, Q.zero_a, Q.zero_b, Q.one_a, Q.one_b] <;> grind)
theorem eq_of_sub {x y : Q} (h : x - y = 0) : x = y := by
  have : x = (x - y) + y := by (refine Q.ext' ?_ ?_ <;> simp only [Q.add_a, Q.add_b, Q.mul_a, Q.mul_b, Q.neg_a, Q.neg_b, Q.sub_a, Q.sub_b, Q.zero_a, Q.zero_b, Q.one_a, Q.one_b] <;> grind)
  rw [h, zero_add] at this; exact this
theorem pos_ne {x : Q} (h : Pos x) : x ≠ 0 := by
  rintro rfl; exact not_pos_zero h

/-- 1 / x. -/
def inv (x : Q) : Q := ⟨x.a / (x.a * x.a - 2 * (x.b * x.b)), -x.b / (x.a * x.a - 2 * (x.b * x.b))⟩
theorem mul_inv {x : Q} (h : x ≠ 0) : x * inv x = 1 := by
  have hn : x.a * x.a - 2 * (x.b * x.b) ≠ 0 := by
    intro e
    obtain ⟨h1, h2⟩ := irr (a := x.a) (b := x.b) (by grind)
    exact h (ext' h1 h2)
  refine ext' ?_ ?_
  · rw [mul_a, one_a]; unfold inv; simp only; grind
  · rw [mul_b, one_b]; unfold inv; simp only; grind
theorem mul_self_pos {x : Q} (h : x ≠ 0) : Pos (x * x) := by
  rcases tri x with h1 | h1 | h1
  · exact pos_mul h1 h1
  · exact absurd h1 h
  · have := pos_mul h1 h1
    rw [mul_neg, neg_mul, neg_neg] at this
    exact this
theorem pos_one : Pos 1 := by
  left; simp only [one_a, one_b]; exact ⟨by grind, by grind⟩
theorem pos_inv {x : Q} (h : Pos x) : Pos (inv x) := by
  have hx := pos_ne h
  have h0 : inv x ≠ 0 := by
    intro e
    have := mul_inv hx
    rw [e, mul_zero] at this
    exact absurd (congrArg Q.a this) (by decide)
  have := pos_mul h (mul_self_pos h0)
  rw [← mul_assoc, mul_inv hx, one_mul] at this
  exact this
theorem pos_one_add {z : Q} (h : Pos z) : Pos (1 + z) := by
  obtain ⟨c, d⟩ := z
  unfold Pos at *
  simp only [add_a, add_b, one_a, one_b] at *
  rcases h with ⟨h1, h2⟩ | ⟨h1, h2⟩
  · left; constructor <;> grind
  · rcases (Rat.le_total (a := (1 + c) * (1 + c)) (b := 2 * (d * d))) with h | h
    · by_cases e : (1 + c) * (1 + c) = 2 * (d * d)
      · obtain ⟨e1, e2⟩ := irr e
        subst e2
        exact absurd h1 (by decide)
      · right; constructor <;> grind
    · by_cases e : (1 + c) * (1 + c) = 2 * (d * d)
      · obtain ⟨e1, e2⟩ := irr e
        subst e2
        exact absurd h1 (by decide)
      · left; constructor <;> grind
theorem pos_add {x y : Q} (hx : Pos x) (hy : Pos y) : Pos (x + y) := by
  have h := pos_mul hx (pos_one_add (pos_mul hy (pos_inv hx)))
  have : x * (1 + y * inv x) = x + y := by
    rw [mul_add, mul_one, mul_comm y, ← mul_assoc, mul_inv (pos_ne hx), one_mul]
  rw [this] at h; exact h
/-- At least 0. -/
def NN (x : Q) : Prop := x = 0 ∨ Pos x
theorem nn_add {x y : Q} (hx : NN x) (hy : NN y) : NN (x + y) := by
  rcases hx with rfl | hx
  · rw [zero_add]; exact hy
  · rcases hy with rfl | hy
    · rw [add_zero]; exact .inr hx
    · exact .inr (pos_add hx hy)
theorem pos_nn {x y : Q} (hx : Pos x) (hy : NN y) : Pos (x + y) := by
  rcases hy with rfl | hy
  · rw [add_zero]; exact hx
  · exact pos_add hx hy
theorem nn_pos {x y : Q} (hx : NN x) (hy : Pos y) : Pos (x + y) := by
  rw [add_comm]; exact pos_nn hy hx
theorem nn_mul {x y : Q} (hx : NN x) (hy : NN y) : NN (x * y) := by
  rcases hx with rfl | hx
  · rw [zero_mul]; exact .inl rfl
  · rcases hy with rfl | hy
    · rw [mul_zero]; exact .inl rfl
    · exact .inr (pos_mul hx hy)
theorem nn_neg {x : Q} (h : NN x) (h' : NN (-x)) : x = 0 := by
  rcases h with h | h
  · exact h
  · rcases h' with h' | h'
    · have : x = - -x := (neg_neg x).symm
      rw [h', neg_zero] at this; exact this
    · exact (not_both h h').elim
theorem nn_not {x : Q} (h : NN x) : ¬ Pos (-x) := fun h' => by
  rcases h with rfl | h
  · rw [neg_zero] at h'; exact not_pos_zero h'
  · exact not_both h h'
theorem nn_of_not {x : Q} (h : ¬ Pos (-x)) : NN x := by
  rcases tri x with h1 | h1 | h1
  · exact .inr h1
  · exact .inl h1
  · exact absurd h1 h

open Classical in
/-- The sign. -/
noncomputable def sg (x : Q) : Int := if Pos x then 1 else if x = 0 then 0 else -1
theorem sg_pos {x : Q} (h : Pos x) : sg x = 1 := by unfold sg; rw [if_pos h]
theorem sg_zero : sg 0 = 0 := by unfold sg; rw [if_neg not_pos_zero, if_pos rfl]
theorem sg_neg {x : Q} (h : Pos (-x)) : sg x = -1 := by
  unfold sg
  rw [if_neg (fun h' => not_both h' h), if_neg (fun e => by rw [e, neg_zero] at h; exact not_pos_zero h)]
theorem sg_eq_one {x : Q} : sg x = 1 ↔ Pos x := by
  rcases tri x with h | h | h
  · simp [sg_pos h, h]
  · subst h; simp [sg_zero, not_pos_zero]
  · rw [sg_neg h]; exact ⟨fun e => absurd e (by decide), fun e => (not_both e h).elim⟩
theorem sg_eq_zero {x : Q} : sg x = 0 ↔ x = 0 := by
  rcases tri x with h | h | h
  · rw [sg_pos h]; exact ⟨fun e => absurd e (by decide), fun e => absurd e (pos_ne h)⟩
  · subst h; simp [sg_zero]
  · rw [sg_neg h]; exact ⟨fun e => absurd e (by decide), fun e => by rw [e, neg_zero] at h; exact (not_pos_zero h).elim⟩
theorem sg_eq_neg {x : Q} : sg x = -1 ↔ Pos (-x) := by
  rcases tri x with h | h | h
  · rw [sg_pos h]; exact ⟨fun e => absurd e (by decide), fun e => (not_both h e).elim⟩
  · subst h; rw [sg_zero, neg_zero]; exact ⟨fun e => absurd e (by decide), fun e => (not_pos_zero e).elim⟩
  · simp [sg_neg h, h]
theorem sg_cases (x : Q) : (sg x = 1 ∧ Pos x) ∨ (sg x = 0 ∧ x = 0) ∨ (sg x = -1 ∧ Pos (-x)) := by
  rcases tri x with h | h | h
  · exact .inl ⟨sg_pos h, h⟩
  · exact .inr (.inl ⟨by rw [h, sg_zero], h⟩)
  · exact .inr (.inr ⟨sg_neg h, h⟩)
theorem sg_mul (x y : Q) : sg (x * y) = sg x * sg y := by
  rcases sg_cases x with ⟨e, h⟩ | ⟨e, h⟩ | ⟨e, h⟩ <;> rcases sg_cases y with ⟨e', h'⟩ | ⟨e', h'⟩ | ⟨e', h'⟩ <;> rw [e, e']
  · exact sg_pos (pos_mul h h')
  · rw [h', mul_zero, sg_zero]; rfl
  · refine sg_neg ?_
    rw [← mul_neg]; exact pos_mul h h'
  · rw [h, zero_mul, sg_zero]; rfl
  · rw [h, zero_mul, sg_zero]; rfl
  · rw [h, zero_mul, sg_zero]; rfl
  · refine sg_neg ?_
    rw [← neg_mul]; exact pos_mul h h'
  · rw [h', mul_zero, sg_zero]; rfl
  · refine sg_pos ?_
    have := pos_mul h h'
    rw [mul_neg, neg_mul, neg_neg] at this; exact this
theorem sg_neg' (x : Q) : sg (-x) = -sg x := by
  rcases sg_cases x with ⟨e, h⟩ | ⟨e, h⟩ | ⟨e, h⟩ <;> rw [e]
  · exact sg_neg (by rw [neg_neg]; exact h)
  · rw [h, neg_zero, sg_zero]; rfl
  · exact sg_pos h
theorem sg_nn {x : Q} : 0 ≤ sg x ↔ NN x := by
  rcases sg_cases x with ⟨e, h⟩ | ⟨e, h⟩ | ⟨e, h⟩ <;> rw [e]
  · exact ⟨fun _ => .inr h, fun _ => by decide⟩
  · exact ⟨fun _ => .inl h, fun _ => by decide⟩
  · exact ⟨fun h => absurd h (by decide), fun h' => absurd h (nn_not h')⟩
end Q
end Go.Q
end

section
namespace Go.Q
set_option linter.unusedSimpArgs false
set_option linter.unusedVariables false
open Q
/-- A point, or a vector. -/
abbrev Pt := Q × Q
def cr (v w : Pt) : Q := v.1 * w.2 - v.2 * w.1
def dt (v w : Pt) : Q := v.1 * w.1 + v.2 * w.2
def mi (p q : Pt) : Pt := (p.1 - q.1, p.2 - q.2)
def qi (X : Int × Int) : Q := ⟨X.1, X.2⟩
/-- The parts of the direction vectors. -/
def tX (d : Nat) : Int × Int := [(1, 0), (1, 0), (1, 0), (-1, 1), (0, 0), (1, -1), (-1, 0), (-1, 0), (-1, 0), (-1, 0), (-1, 0), (1, -1), (0, 0), (-1, 1), (1, 0), (1, 0)].getD (d % 16) (0, 0)
def tY (d : Nat) : Int × Int := [(0, 0), (-1, 1), (1, 0), (1, 0), (1, 0), (1, 0), (1, 0), (-1, 1), (0, 0), (1, -1), (-1, 0), (-1, 0), (-1, 0), (-1, 0), (-1, 0), (1, -1)].getD (d % 16) (0, 0)
def vec (d : Nat) : Pt := (qi (tX d), qi (tY d))
def mulZ (X Y : Int × Int) : Int × Int := (X.1 * Y.1 + 2 * (X.2 * Y.2), X.1 * Y.2 + X.2 * Y.1)
def subZ (X Y : Int × Int) : Int × Int := (X.1 - Y.1, X.2 - Y.2)
def addZ (X Y : Int × Int) : Int × Int := (X.1 + Y.1, X.2 + Y.2)
theorem qi_mul (X Y : Int × Int) : qi X * qi Y = qi (mulZ X Y) := by
  refine ext' ?_ ?_
  · rw [mul_a]; unfold qi mulZ; simp only [Rat.intCast_add, Rat.intCast_mul]; rfl
  · rw [mul_b]; unfold qi mulZ; simp only [Rat.intCast_add, Rat.intCast_mul]
theorem qi_sub (X Y : Int × Int) : qi X - qi Y = qi (subZ X Y) := by
  refine ext' ?_ ?_
  · rw [sub_a]; unfold qi subZ; simp only [Rat.intCast_sub]
  · rw [sub_b]; unfold qi subZ; simp only [Rat.intCast_sub]
theorem qi_add (X Y : Int × Int) : qi X + qi Y = qi (addZ X Y) := by
  refine ext' ?_ ?_
  · rw [add_a]; unfold qi addZ; simp only [Rat.intCast_add]
  · rw [add_b]; unfold qi addZ; simp only [Rat.intCast_add]
def posZ (X : Int × Int) : Bool := (decide (0 < X.1) && decide (2 * (X.2 * X.2) < X.1 * X.1)) || (decide (0 < X.2) && decide (X.1 * X.1 < 2 * (X.2 * X.2)))
theorem two_cast : ((2 : Int) : Rat) = 2 := rfl
theorem qi_pos (X : Int × Int) : Pos (qi X) ↔ posZ X = true := by
  unfold Pos qi posZ
  simp only [Bool.or_eq_true, Bool.and_eq_true, decide_eq_true_eq]
  have e0 : (0 : Rat) = ((0 : Int) : Rat) := rfl
  rw [← two_cast, e0, ← Rat.intCast_mul, ← Rat.intCast_mul, ← Rat.intCast_mul, Rat.intCast_lt_intCast, Rat.intCast_lt_intCast, Rat.intCast_lt_intCast, Rat.intCast_lt_intCast]
theorem qi_zero (X : Int × Int) : qi X = 0 ↔ X = (0, 0) := by
  constructor
  · intro h
    have h1 := congrArg Q.a h
    have h2 := congrArg Q.b h
    have e0 : (0 : Rat) = ((0 : Int) : Rat) := rfl
    refine Prod.ext ?_ ?_
    · exact Rat.intCast_inj.1 (h1.trans e0)
    · exact Rat.intCast_inj.1 (h2.trans e0)
  · rintro rfl; rfl
def crZ (d e : Nat) : Int × Int := subZ (mulZ (tX d) (tY e)) (mulZ (tY d) (tX e))
def dtZ (d e : Nat) : Int × Int := addZ (mulZ (tX d) (tX e)) (mulZ (tY d) (tY e))
theorem cr_vec (d e : Nat) : cr (vec d) (vec e) = qi (crZ d e) := by
  unfold cr vec crZ; simp only [qi_mul, qi_sub]
theorem dt_vec (d e : Nat) : dt (vec d) (vec e) = qi (dtZ d e) := by
  unfold dt vec dtZ; simp only [qi_mul, qi_add]
theorem tX_mod (d : Nat) : tX (d % 16) = tX d := by unfold tX; rw [Nat.mod_mod]
theorem tY_mod (d : Nat) : tY (d % 16) = tY d := by unfold tY; rw [Nat.mod_mod]
theorem vec_mod (d : Nat) : vec (d % 16) = vec d := by unfold vec; rw [tX_mod, tY_mod]
theorem cr_tab : ∀ d : Fin 16, ∀ t : Fin 16, (t.val = 0 ∨ t.val = 8 → crZ d.val (d.val + t.val) = (0, 0)) ∧ (1 ≤ t.val ∧ t.val ≤ 7 → posZ (crZ d.val (d.val + t.val)) = true) ∧ (9 ≤ t.val → posZ (crZ (d.val + t.val) d.val) = true) := by
  decide +kernel
theorem dt_tab : ∀ d : Fin 16, posZ (dtZ d.val d.val) = true := by decide +kernel
theorem cr_anti (v w : Pt) : cr w v = -cr v w := by
  unfold cr; (refine Q.ext' ?_ ?_ <;> simp only [Q.add_a, Q.add_b, Q.mul_a, Q.mul_b, Q.neg_a, Q.neg_b, Q.sub_a, Q.sub_b, Q.zero_a, Q.zero_b, Q.one_a, Q.one_b] <;> grind)
theorem vec_sq (d : Nat) : Pos (dt (vec d) (vec d)) := by
  rw [← vec_mod, dt_vec, qi_pos]
  exact dt_tab ⟨d % 16, Nat.mod_lt _ (by decide)⟩
/-- The sign of the product of two directions. -/
theorem cr_sign (d t : Nat) (ht : t < 16) : (t = 0 ∨ t = 8 → cr (vec d) (vec (d + t)) = 0) ∧ (1 ≤ t ∧ t ≤ 7 → Pos (cr (vec d) (vec (d + t)))) ∧ (9 ≤ t → Pos (-cr (vec d) (vec (d + t)))) := by
  have e1 : vec (d + t) = vec (d % 16 + t) := by rw [← vec_mod, ← vec_mod (d % 16 + t)]; congr 1; omega
  rw [e1, ← vec_mod d, cr_vec]
  obtain ⟨h1, h2, h3⟩ := cr_tab ⟨d % 16, Nat.mod_lt _ (by decide)⟩ ⟨t, ht⟩
  refine ⟨fun h => (qi_zero _).2 (h1 h), fun h => (qi_pos _).2 (h2 h), fun h => ?_⟩
  rw [← cr_vec, ← cr_anti, cr_vec]
  exact (qi_pos _).2 (h3 h)
/-- e has direction d. -/
def Along (d : Nat) (e : Pt) : Prop := cr (vec d) e = 0 ∧ Pos (dt (vec d) e)
theorem along_id (w v e : Pt) : cr w e * dt v v = cr w v * dt v e + dt w v * cr v e := by
  unfold cr dt; (refine Q.ext' ?_ ?_ <;> simp only [Q.add_a, Q.add_b, Q.mul_a, Q.mul_b, Q.neg_a, Q.neg_b, Q.sub_a, Q.sub_b, Q.zero_a, Q.zero_b, Q.one_a, Q.one_b] <;> grind)
theorem along_cr {d : Nat} {e : Pt} (h : Along d e) (w : Pt) : sg (cr w e) = sg (cr w (vec d)) := by
  have h1 := along_id w (vec d) e
  rw [h.1, mul_zero, add_zero] at h1
  have h2 := congrArg sg h1
  rw [sg_mul, sg_mul, sg_pos (vec_sq d), sg_pos h.2] at h2
  omega
end Go.Q
end

section
/- A closed line that turns to the left at each corner, by one whole turn, is convex. -/
namespace Go.Q
set_option linter.unusedSimpArgs false
set_option linter.unusedVariables false
open Q
def tn (d : Nat → Nat) (i : Nat) : Nat := (d (i + 1) + 16 - d i) % 16
def sumT (f : Nat → Nat) (j : Nat) : Nat → Nat
  | 0 => 0
  | m + 1 => sumT f j m + f (j + m)
theorem sumT_mono {f : Nat → Nat} {j : Nat} : ∀ {m k : Nat}, m ≤ k → sumT f j m ≤ sumT f j k
  | m, 0, h => by
    have : m = 0 := by omega
    subst this; exact Nat.le_refl _
  | m, k + 1, h => by
    rcases Nat.lt_or_ge k m with h' | h'
    · have : m = k + 1 := by omega
      subst this; exact Nat.le_refl _
    · have := sumT_mono (f := f) (j := j) h'
      show _ ≤ sumT f j k + f (j + k)
      omega
theorem sumT_succ (f : Nat → Nat) (j : Nat) : ∀ m, sumT f j (m + 1) = f j + sumT f (j + 1) m
  | 0 => by simp [sumT]
  | m + 1 => by
    show sumT f j (m + 1) + f (j + (m + 1)) = f j + (sumT f (j + 1) m + f (j + 1 + m))
    rw [sumT_succ f j m, Nat.add_assoc j 1 m, Nat.add_comm 1 m, Nat.add_assoc]
theorem sumT_rot (f : Nat → Nat) (n : Nat) (hp : ∀ i, f (i + n) = f i) : ∀ j, sumT f j n = sumT f 0 n
  | 0 => rfl
  | j + 1 => by
    rw [← sumT_rot f n hp j]
    have h1 := sumT_succ f j n
    have h2 : sumT f j (n + 1) = sumT f j n + f (j + n) := rfl
    rw [hp] at h2
    omega
structure Round (n : Nat) (p : Nat → Pt) (d : Nat → Nat) : Prop where
  n3 : 3 ≤ n
  perP : ∀ i, p (i + n) = p i
  perD : ∀ i, d (i + n) = d i
  lt : ∀ i, d i < 16
  edge : ∀ i, Along (d i) (mi (p (i + 1)) (p i))
  turn : ∀ i, 1 ≤ tn d i ∧ tn d i ≤ 7
  sum : sumT (tn d) 0 n = 16
section
variable {n : Nat} {p : Nat → Pt} {d : Nat → Nat}
theorem Round.dir (h : Round n p d) (j : Nat) : ∀ m, d (j + m) = (d j + sumT (tn d) j m) % 16
  | 0 => by
    show d j = (d j + 0) % 16
    rw [Nat.add_zero, Nat.mod_eq_of_lt (h.lt j)]
  | m + 1 => by
    show d (j + m + 1) = (d j + (sumT (tn d) j m + tn d (j + m))) % 16
    have ih := h.dir j m
    have h1 := h.lt (j + m)
    have h2 := h.lt (j + m + 1)
    unfold tn at *
    omega
theorem Round.total (h : Round n p d) (j : Nat) : sumT (tn d) j n = 16 := by
  rw [sumT_rot (tn d) n (fun i => by
    unfold tn
    have e : i + n + 1 = i + 1 + n := by omega
    rw [e, h.perD, h.perD]) j, h.sum]
/-- How far to the left of side j the corner j + m is. -/
def off (p : Nat → Pt) (d : Nat → Nat) (j m : Nat) : Q := cr (vec (d j)) (mi (p (j + m)) (p j))
theorem off_succ (p : Nat → Pt) (d : Nat → Nat) (j m : Nat) : off p d j (m + 1) = off p d j m + cr (vec (d j)) (mi (p (j + m + 1)) (p (j + m))) := by
  unfold off cr mi
  show _ = _
  simp only
  (refine Q.ext' ?_ ?_ <;> simp only [Q.add_a, Q.add_b, Q.mul_a, Q.mul_b, Q.neg_a, Q.neg_b, Q.sub_a, Q.sub_b, Q.zero_a, Q.zero_b, Q.one_a, Q.one_b] <;> grind)
theorem Round.step (h : Round n p d) (j m : Nat) (hm : m < n) :
    (sumT (tn d) j m = 0 ∨ sumT (tn d) j m = 8 → cr (vec (d j)) (mi (p (j + m + 1)) (p (j + m))) = 0) ∧
    (1 ≤ sumT (tn d) j m ∧ sumT (tn d) j m ≤ 7 → Pos (cr (vec (d j)) (mi (p (j + m + 1)) (p (j + m))))) ∧
    (9 ≤ sumT (tn d) j m → Pos (-cr (vec (d j)) (mi (p (j + m + 1)) (p (j + m))))) := by
  have hs : sumT (tn d) j m < 16 := by
    have h1 := h.total j
    have h2 := sumT_mono (f := tn d) (j := j) (show m + 1 ≤ n by omega)
    have h3 := h.turn (j + m)
    have h4 : sumT (tn d) j (m + 1) = sumT (tn d) j m + tn d (j + m) := rfl
    omega
  have ha := along_cr (h.edge (j + m)) (vec (d j))
  have hd : vec (d (j + m)) = vec (d j + sumT (tn d) j m) := by rw [h.dir j m, vec_mod]
  rw [hd] at ha
  obtain ⟨c1, c2, c3⟩ := cr_sign (d j) (sumT (tn d) j m) hs
  refine ⟨fun hh => ?_, fun hh => ?_, fun hh => ?_⟩
  · rw [c1 hh, sg_zero] at ha; exact sg_eq_zero.1 ha
  · rw [sg_pos (c2 hh)] at ha; exact sg_eq_one.1 ha
  · rw [sg_neg (c3 hh)] at ha; exact sg_eq_neg.1 ha
theorem Round.off_zero (h : Round n p d) (j : Nat) : off p d j 0 = 0 := by
  unfold off cr mi; simp only [Nat.add_zero]; (refine Q.ext' ?_ ?_ <;> simp only [Q.add_a, Q.add_b, Q.mul_a, Q.mul_b, Q.neg_a, Q.neg_b, Q.sub_a, Q.sub_b, Q.zero_a, Q.zero_b, Q.one_a, Q.one_b] <;> grind)
theorem Round.off_n (h : Round n p d) (j : Nat) : off p d j n = 0 := by
  unfold off; rw [h.perP]; unfold cr mi; simp only; (refine Q.ext' ?_ ?_ <;> simp only [Q.add_a, Q.add_b, Q.mul_a, Q.mul_b, Q.neg_a, Q.neg_b, Q.sub_a, Q.sub_b, Q.zero_a, Q.zero_b, Q.one_a, Q.one_b] <;> grind)
theorem Round.off_one (h : Round n p d) (j : Nat) : off p d j 1 = 0 := by
  rw [off_succ, h.off_zero, zero_add]
  exact (h.step j 0 (by have := h.n3; omega)).1 (.inl rfl)
theorem Round.up (h : Round n p d) (j : Nat) : ∀ m, 2 ≤ m → m ≤ n → sumT (tn d) j (m - 1) ≤ 8 → Pos (off p d j m)
  | 0, h2, _, _ => by omega
  | 1, h2, _, _ => by omega
  | 2, _, hn, _ => by
    rw [off_succ, h.off_one, zero_add]
    refine (h.step j 1 (by omega)).2.1 ?_
    have := h.turn j
    show 1 ≤ 0 + tn d (j + 0) ∧ 0 + tn d (j + 0) ≤ 7
    simpa using this
  | m + 3, _, hn, hs => by
    have h1 := sumT_mono (f := tn d) (j := j) (show m + 1 ≤ m + 2 by omega)
    have e : m + 3 - 1 = m + 2 := by omega
    rw [e] at hs
    have ih := h.up j (m + 2) (by omega) (by omega) (by
      show sumT (tn d) j (m + 1) ≤ 8
      omega)
    rw [off_succ]
    refine pos_nn ih ?_
    have st := h.step j (m + 2) (by omega)
    rcases Nat.lt_or_ge (sumT (tn d) j (m + 2)) 8 with h8 | h8
    · rcases Nat.eq_zero_or_pos (sumT (tn d) j (m + 2)) with h0 | h0
      · exact .inl (st.1 (.inl h0))
      · exact .inr (st.2.1 ⟨h0, by omega⟩)
    · exact .inl (st.1 (.inr (by omega)))
theorem Round.down (h : Round n p d) (j : Nat) : ∀ k, 1 ≤ k → ∀ m, m + k = n → 9 ≤ sumT (tn d) j m → Pos (off p d j m)
  | 0, h1, _, _, _ => by omega
  | k + 1, _, m, e, h9 => by
    have st := (h.step j m (by omega)).2.2 h9
    have e1 : off p d j m = -cr (vec (d j)) (mi (p (j + m + 1)) (p (j + m))) + off p d j (m + 1) := by
      rw [off_succ]; (refine Q.ext' ?_ ?_ <;> simp only [Q.add_a, Q.add_b, Q.mul_a, Q.mul_b, Q.neg_a, Q.neg_b, Q.sub_a, Q.sub_b, Q.zero_a, Q.zero_b, Q.one_a, Q.one_b] <;> grind)
    rw [e1]
    refine pos_nn st ?_
    cases k with
    | zero =>
      have : m + 1 = n := by omega
      rw [this]; exact .inl (h.off_n j)
    | succ k =>
      exact .inr (h.down j (k + 1) (by omega) (m + 1) (by omega) (Nat.le_trans h9 (sumT_mono (by omega))))
/-- All corners but the ends of a side lie strictly to the left of it. -/
theorem Round.convex (h : Round n p d) (j m : Nat) (h2 : 2 ≤ m) (hn : m < n) : Pos (off p d j m) := by
  rcases Nat.lt_or_ge (sumT (tn d) j (m - 1)) 9 with h9 | h9
  · exact h.up j m h2 (by omega) (by omega)
  · exact h.down j (n - m) (by omega) m (by omega) (Nat.le_trans h9 (sumT_mono (by omega)))
/-- Corners are different. -/
theorem Round.ne (h : Round n p d) (j m : Nat) (h1 : 1 ≤ m) (hn : m < n) : p (j + m) ≠ p j := by
  intro e
  rcases Nat.lt_or_ge m 2 with h2 | h2
  · have : m = 1 := by omega
    subst this
    have := (h.edge j).2
    rw [e] at this
    have e0 : dt (vec (d j)) (mi (p j) (p j)) = 0 := by unfold dt mi; simp only; (refine Q.ext' ?_ ?_ <;> simp only [Q.add_a, Q.add_b, Q.mul_a, Q.mul_b, Q.neg_a, Q.neg_b, Q.sub_a, Q.sub_b, Q.zero_a, Q.zero_b, Q.one_a, Q.one_b] <;> grind)
    rw [e0] at this
    exact not_pos_zero this
  · have := h.convex j m h2 hn
    unfold off at this
    rw [e] at this
    have e0 : cr (vec (d j)) (mi (p j) (p j)) = 0 := by unfold cr mi; simp only; (refine Q.ext' ?_ ?_ <;> simp only [Q.add_a, Q.add_b, Q.mul_a, Q.mul_b, Q.neg_a, Q.neg_b, Q.sub_a, Q.sub_b, Q.zero_a, Q.zero_b, Q.one_a, Q.one_b] <;> grind)
    rw [e0] at this
    exact not_pos_zero this
end
end Go.Q
end

section
namespace Go.Vk.St
open Go Go.Proofs Go.Vk Go.Q
set_option linter.unusedVariables false
set_option linter.unusedSimpArgs false
set_option maxRecDepth 100000

theorem sgn_sg (A B : Int) : sgn A B = Q.sg (qi (A, B)) := by
  by_cases h0 : A = 0 ∧ B = 0
  · obtain ⟨rfl, rfl⟩ := h0
    have : qi (0, 0) = 0 := (qi_zero (0, 0)).2 rfl
    rw [this, Q.sg_zero]; rfl
  · have hp := qi_pos (A, B)
    have hz := qi_zero (A, B)
    have e1 : ((A.natAbs * A.natAbs : Nat) : Int) = A * A := Int.natAbs_mul_self
    have e2 : ((B.natAbs * B.natAbs : Nat) : Int) = B * B := Int.natAbs_mul_self
    have hne : A * A ≠ 2 * (B * B) := fun e => by
      have hA := Q.irrZ e
      subst hA
      have : B * B = 0 := by omega
      rcases Int.mul_eq_zero.1 this with h | h <;> exact h0 ⟨rfl, h⟩
    have hA0 : A ≠ 0 → 0 < A * A := fun h => by
      rw [← e1]; have := Nat.mul_pos (show 0 < A.natAbs by omega) (show 0 < A.natAbs by omega); omega
    have hB0 : B ≠ 0 → 0 < B * B := fun h => by
      rw [← e2]; have := Nat.mul_pos (show 0 < B.natAbs by omega) (show 0 < B.natAbs by omega); omega
    have hA1 : A = 0 → A * A = 0 := fun h => by rw [h]; rfl
    have hB1 : B = 0 → B * B = 0 := fun h => by rw [h]; rfl
    have hpz : posZ (A, B) = true ↔ (0 < A ∧ 2 * (B * B) < A * A) ∨ (0 < B ∧ A * A < 2 * (B * B)) := by
      unfold posZ; simp
    have hsg : sgn A B = if (0 < A ∧ 2 * (B * B) < A * A) ∨ (0 < B ∧ A * A < 2 * (B * B)) then 1 else -1 := by
      unfold sgn
      rw [if_neg h0]
      generalize A.natAbs * A.natAbs = a at *
      generalize B.natAbs * B.natAbs = b at *
      generalize A * A = P at *
      generalize B * B = R at *
      repeat' split
      all_goals omega
    rw [hsg]
    by_cases h : (0 < A ∧ 2 * (B * B) < A * A) ∨ (0 < B ∧ A * A < 2 * (B * B))
    · rw [if_pos h, Q.sg_pos (hp.2 (hpz.2 h))]
    · rw [if_neg h]
      rcases Q.tri (qi (A, B)) with h1 | h1 | h1
      · exact absurd (hpz.1 (hp.1 h1)) h
      · have := hz.1 h1
        exact absurd ⟨congrArg Prod.fst this, congrArg Prod.snd this⟩ h0
      · exact (Q.sg_neg h1).symm
theorem mul2_Z (X Y : Int × Int) : mul2 X Y = mulZ X Y := by
  unfold mul2 mulZ; rw [Int.mul_assoc]
theorem vX_t (d : Nat) : vX d = tX d := rfl
theorem vY_t (d : Nat) : vY d = tY d := rfl
/-- A point of whole parts. -/
def pz (X Y : Int × Int) : Pt := (qi X, qi Y)
theorem dot2_dt (d : Nat) (X Y : Int × Int) : qi (dot2 d X Y) = dt (vec d) (pz X Y) := by
  unfold dot2 dt vec pz
  rw [mul2_Z, mul2_Z, vX_t, vY_t]
  simp only [qi_mul, qi_add]; rfl
theorem dot2_cr (d : Nat) (h : d < 16) (X Y : Int × Int) : qi (dot2 (d + 4) X Y) = cr (vec d) (pz X Y) := by
  rw [← cross_dot d h]
  unfold cr vec pz
  rw [mul2_Z, mul2_Z, vX_t, vY_t]
  simp only [qi_mul, qi_sub]; rfl
theorem dirN_along : ∀ (m d : Nat) (X Y : Int × Int), d + m = 16 → 0 ≤ dirN m d X Y → (dirN m d X Y).toNat < 16 ∧ Along (dirN m d X Y).toNat (pz X Y)
  | 0, d, X, Y, h, h0 => by exact absurd h0 (by show ¬ (0 : Int) ≤ -1; decide)
  | m + 1, d, X, Y, h, h0 => by
    have ih := dirN_along m (d + 1) X Y (by omega)
    rw [show dirN (m + 1) d X Y = (bif decide ((dot2 (d + 4) X Y).1 = 0 ∧ (dot2 (d + 4) X Y).2 = 0) then (bif decide (sgn (dot2 d X Y).1 (dot2 d X Y).2 > 0) then (d : Int) else dirN m (d + 1) X Y) else dirN m (d + 1) X Y) from rfl] at h0 ⊢
    cases h1 : decide ((dot2 (d + 4) X Y).1 = 0 ∧ (dot2 (d + 4) X Y).2 = 0)
    · rw [h1] at h0; exact ih h0
    · cases h2 : decide (sgn (dot2 d X Y).1 (dot2 d X Y).2 > 0)
      · rw [h1, h2] at h0; exact ih h0
      · refine ⟨by show ((d : Int)).toNat < 16; omega, ?_⟩
        show Along ((d : Int)).toNat _
        rw [Int.toNat_natCast]
        have h1' := of_decide_eq_true h1
        have h2' := of_decide_eq_true h2
        refine ⟨?_, ?_⟩
        · rw [← dot2_cr d (by omega), (qi_zero _).2 (Prod.ext h1'.1 h1'.2)]
        · rw [← dot2_dt]
          rw [sgn_sg] at h2'
          refine Q.sg_eq_one.1 ?_
          rcases Q.sg_cases (qi (dot2 d X Y)) with ⟨e, _⟩ | ⟨e, _⟩ | ⟨e, _⟩
          · exact e
          · exact absurd h2' (by show ¬ Q.sg (qi (dot2 d X Y)) > 0; rw [e]; decide)
          · exact absurd h2' (by show ¬ Q.sg (qi (dot2 d X Y)) > 0; rw [e]; decide)
theorem and15 (a : Int) : IntKind.i64.wrap (((BitVec.ofInt IntKind.i64.bits a &&& BitVec.ofInt IntKind.i64.bits (15 : Int)).toNat : Nat) : Int) = a % 16 := by
  have h : (BitVec.ofInt IntKind.i64.bits a &&& BitVec.ofInt IntKind.i64.bits (15 : Int)).toNat = (a % 16).toNat := by
    show (BitVec.ofInt 64 a &&& BitVec.ofInt 64 (15 : Int)).toNat = (a % 16).toNat
    rw [BitVec.toNat_and, BitVec.toNat_ofInt, show (BitVec.ofInt 64 (15 : Int)).toNat = 2 ^ 4 - 1 from rfl, Nat.and_two_pow_sub_one_eq_mod]
    omega
  rw [h, wrap64 (by omega) (by omega)]
  omega
theorem q187 (x : Int) (c) : k187 x c = c ((x % 16, ()), ()) := of_e (s := s187) (e187 x) rfl (by rw [and15]; rfl) c
theorem q145 (x : Int) (h1 : -16 < x) (h2 : x < 16) (c) : k145 x c = c ((x % 16, ()), ()) := by
  refine of_e (s := s145) (e145 x) rfl ?_ c
  have : Int.tmod (IntKind.i64.wrap ((Int.tmod x (16 : Int)) + (16 : Int))) (16 : Int) = x % 16 := by
    have e1 : Int.tmod x 16 = x := by
      rw [Int.tmod_eq_emod]; split <;> omega
    rw [e1, wrap64 (by omega) (by omega), Int.tmod_eq_emod_of_nonneg (by omega)]
    omega
  rw [this]; rfl
theorem tmod_nat (a n : Nat) : Int.tmod (a : Int) (n : Int) = ((a % n : Nat) : Int) := by
  rw [Int.tmod_eq_emod_of_nonneg (by omega)]; simp
end Go.Vk.St
end

section
namespace Go.Vk.St
open Go Go.Proofs Go.Vk Go.Q
set_option linter.unusedVariables false
set_option linter.unusedSimpArgs false
set_option maxRecDepth 100000

/-- The points of a list, exactly. -/
structure Pts (x : Sl U0) (X Y : Nat → Int × Int) : Prop where
  at' : ∀ i, i < x.n → PAt 10 (x.get i) (X i) (Y i)
  sX : ∀ i, i < x.n → small 134217728 (X i)
  sY : ∀ i, i < x.n → small 134217728 (Y i)
theorem allV_at (x : Sl U0) : ∀ (m i : Nat), allV x i m = true → ∀ j, i ≤ j → j < i + m → valP (x.get j) = true
  | 0, i, _, j, h1, h2 => by omega
  | m + 1, i, h, j, h1, h2 => by
    unfold allV at h
    rw [Bool.and_eq_true] at h
    by_cases e : j = i
    · subst e; exact h.1
    · exact allV_at x m (i + 1) h.2 j (by omega) (by omega)
theorem pts_of {x : Sl U0} (h : ∀ i, i < x.n → valP (x.get i) = true) : ∃ X Y, Pts x X Y := by
  have h' : ∀ i, ∃ Z : (Int × Int) × (Int × Int), i < x.n → PAt 10 (x.get i) Z.1 Z.2 ∧ small 134217728 Z.1 ∧ small 134217728 Z.2 := fun i => by
    by_cases hi : i < x.n
    · obtain ⟨X, Y, h1, h2, h3⟩ := valP_at (h i hi)
      exact ⟨(X, Y), fun _ => ⟨h1, h2, h3⟩⟩
    · exact ⟨((0, 0), (0, 0)), fun h => absurd h hi⟩
  exact ⟨fun i => (Classical.choose (h' i)).1, fun i => (Classical.choose (h' i)).2, fun i hi => (Classical.choose_spec (h' i) hi).1, fun i hi => (Classical.choose_spec (h' i) hi).2.1, fun i hi => (Classical.choose_spec (h' i) hi).2.2⟩
section
variable {x : Sl U0} {X Y : Nat → Int × Int}
/-- The direction of side i. -/
def sideD (n : Nat) (X Y : Nat → Int × Int) (i : Nat) : Int := dirP (X (i % n)) (Y (i % n)) (X ((i + 1) % n)) (Y ((i + 1) % n))
theorem sideD_range (n : Nat) (X Y : Nat → Int × Int) (i : Nat) : sideD n X Y i = -1 ∨ (0 ≤ sideD n X Y i ∧ sideD n X Y i < 16) := dirN_range 16 0 _ _ rfl
def inT (b : Int) : Bool := inR b 1 7
/-- The program's loop over the corners. -/
def cI (D : Nat → Int) : Nat → Nat → Int → Int → Bool
  | 0, i, s, b => s == 16
  | m + 1, i, s, b => bif decide (D i < 0) then false else bif decide (b < 0) then false else bif !(inT ((D i - b) % 16)) then false else cI D m (i + 1) (s + (D i - b) % 16) (D i)
theorem Pts.dir (hp : Pts x X Y) {i j : Nat} (hi : i < x.n) (hj : j < x.n) (c) : k186 (x.get i) (x.get j) c = c ((dirP (X i) (Y i) (X j) (Y j), ()), ()) :=
  q186 (hp.at' i hi) (hp.at' j hj) (hp.sX i hi) (hp.sY i hi) (hp.sX j hj) (hp.sY j hj) c
theorem l148 (hp : Pts x X Y) (h3 : 3 ≤ x.n) (hn : x.n ≤ 1048576) : ∀ (m i : Nat) (s b : Int), i + m = x.n → 0 ≤ s → s ≤ 16 * i → -1 ≤ b → b < 16 →
    L148_14 x ((x.n : Nat) : Int) s b x ((x.n : Nat) : Int) i = some (s148.E ((cI (sideD x.n X Y) m i s b, ()), ()))
  | 0, i, s, b, h, h1, h2, b1, b2 => by
    have : i = x.n := by omega
    subst this
    exact of_l (l148_14 _ _ _ _ _ _ _) (by simp only [Int.lt_irrefl, decide_false, cond_false]; rfl)
  | m + 1, i, s, b, h, h1, h2, b1, b2 => by
    have hi : i < x.n := by omega
    refine of_l (l148_14 _ _ _ _ _ _ _) ?_
    have hn0 : ((x.n : Nat) : Int) ≠ 0 := by omega
    have hw : IntKind.i64.wrap ((i : Int) + 1) = ((i + 1 : Nat) : Int) := wrap_add1 (by omega)
    have hlt : (i + 1) % x.n < x.n := Nat.mod_lt _ (by omega)
    have hd := hp.dir hi hlt
    have e1 : sideD x.n X Y i = dirP (X i) (Y i) (X ((i + 1) % x.n)) (Y ((i + 1) % x.n)) := by
      unfold sideD; rw [Nat.mod_eq_of_lt hi]
    have hr := sideD_range x.n X Y i
    have hwr : IntKind.i64.wrap (sideD x.n X Y i - b) = sideD x.n X Y i - b := wrap64 (by omega) (by omega)
    simp only [Int.ofNat_lt, hi, decide_true, cond_true, Int.natCast_nonneg, if_true, Int.toNat_natCast, hn0, if_false, hw, tmod_nat, hlt, hd, ← e1, hwr, q187, q53]
    rw [show cI (sideD x.n X Y) (m + 1) i s b = (bif decide (sideD x.n X Y i < 0) then false else bif decide (b < 0) then false else bif !(inT ((sideD x.n X Y i - b) % 16)) then false else cI (sideD x.n X Y) m (i + 1) (s + (sideD x.n X Y i - b) % 16) (sideD x.n X Y i)) from rfl]
    cases g1 : decide (sideD x.n X Y i < 0)
    · cases g2 : decide (b < 0)
      · have g1' := of_decide_eq_false g1
        have g2' := of_decide_eq_false g2
        have ih := l148 hp h3 hn m (i + 1) (s + (sideD x.n X Y i - b) % 16) (sideD x.n X Y i) (by omega) (by omega) (by omega) (by omega) (by omega)
        have hws : IntKind.i64.wrap (s + (sideD x.n X Y i - b) % 16) = s + (sideD x.n X Y i - b) % 16 := wrap64 (by omega) (by omega)
        simp only [cond_false, hws, ih]
        unfold inT
        cases inR ((sideD x.n X Y i - b) % 16) 1 7 <;> rfl
      · rfl
    · rfl
theorem q148 (hp : Pts x X Y) (h3 : 3 ≤ x.n) (hn : x.n ≤ 1048576) (c) : k148 x c = c ((cI (sideD x.n X Y) x.n 0 0 (sideD x.n X Y (x.n - 1)), ()), ()) := by
  refine of_e (s := s148) (e148 x) rfl ?_ c
  have h0 : decide (((x.n : Nat) : Int) < 3) = false := decide_eq_false (by omega)
  have hw : IntKind.i64.wrap (((x.n : Nat) : Int) - 1) = ((x.n - 1 : Nat) : Int) := by rw [wrap64 (by omega) (by omega)]; omega
  have hpos : (0 : Int) < ((x.n : Nat) : Int) := by omega
  have hd := hp.dir (show x.n - 1 < x.n by omega) (show 0 < x.n by omega)
  have e1 : sideD x.n X Y (x.n - 1) = dirP (X (x.n - 1)) (Y (x.n - 1)) (X 0) (Y 0) := by
    unfold sideD
    rw [Nat.mod_eq_of_lt (show x.n - 1 < x.n by omega), show x.n - 1 + 1 = x.n by omega, Nat.mod_self]
  have hr := sideD_range x.n X Y (x.n - 1)
  have := l148 hp h3 hn x.n 0 0 (sideD x.n X Y (x.n - 1)) (by omega) (by omega) (by omega) (by omega) (by omega)
  simp only [h0, cond_false, hw, Int.natCast_nonneg, if_true, Int.ofNat_lt, show x.n - 1 < x.n by omega, hpos, Int.toNat_natCast, hd, ← e1]
  exact this
/-- The reference's sides. -/
theorem l143 (hp : Pts x X Y) (h3 : 3 ≤ x.n) (hn : x.n ≤ 1048576) : ∀ (m i : Nat) (o : Sl Int), i + m = x.n → o.n = i → (∀ j, j < i → o.get j = sideD x.n X Y j ∧ 0 ≤ sideD x.n X Y j) →
    ∃ r : Sl Int, ∃ b : Bool, L143_6 x i o = some (s143.E ((r, b, ()), ())) ∧ (b = true → r.n = x.n ∧ ∀ j, j < x.n → r.get j = sideD x.n X Y j ∧ 0 ≤ sideD x.n X Y j) ∧ (b = false → ∃ j, j < x.n ∧ sideD x.n X Y j < 0)
  | 0, i, o, h, ho, hb => by
    have : i = x.n := by omega
    subst this
    exact ⟨o, true, of_l (l143_6 _ _ _) (by simp only [Int.lt_irrefl, decide_false, cond_false]), fun _ => ⟨ho, hb⟩, fun h => by cases h⟩
  | m + 1, i, o, h, ho, hb => by
    have hi : i < x.n := by omega
    have hn0 : ((x.n : Nat) : Int) ≠ 0 := by omega
    have hw : IntKind.i64.wrap ((i : Int) + 1) = ((i + 1 : Nat) : Int) := wrap_add1 (by omega)
    have hlt : (i + 1) % x.n < x.n := Nat.mod_lt _ (by omega)
    obtain ⟨z, hz, cz⟩ := q181 (hp.at' _ hlt) (hp.at' i hi) (hp.sX _ hlt) (hp.sY _ hlt) (hp.sX i hi) (hp.sY i hi)
    have hd : ∀ c, k180 z c = c ((sideD x.n X Y i, ()), ()) := fun c => by
      rw [q180 hz (sub2_small (hp.sX _ hlt) (hp.sX i hi)) (sub2_small (hp.sY _ hlt) (hp.sY i hi))]
      unfold sideD dirP; rw [Nat.mod_eq_of_lt hi]
    cases g1 : decide (sideD x.n X Y i < 0) with
    | true =>
      refine ⟨Sl.mk 0 (fun k0 => (0 : Int)), false, of_l (l143_6 _ _ _) ?_, (by simp), fun _ => ⟨i, hi, of_decide_eq_true g1⟩⟩
      simp only [Int.ofNat_lt, hi, decide_true, cond_true, Int.natCast_nonneg, if_true, Int.toNat_natCast, hn0, if_false, hw, tmod_nat, hlt, cz, hd, g1]
    | false =>
      have g1' := of_decide_eq_false g1
      obtain ⟨r, b, h1, h2, h3'⟩ := l143 hp h3 hn m (i + 1) (Sl.app tI o (Sl.lit tI [sideD x.n X Y i])) (by omega) (by show o.n + 1 = i + 1; omega) (fun j hj => by
        by_cases e : j = i
        · subst e
          refine ⟨?_, by omega⟩
          show tI.bif (Nat.blt j o.n) (o.get j) (tI.sel [sideD x.n X Y j] (j - o.n)) = _
          rw [Ty.bif_eq, blt_iff, decide_eq_false (by omega), cond_false, ho, Nat.sub_self, Ty.sel_at tI [sideD x.n X Y j] (by simp)]
          rfl
        · have := hb j (by omega)
          refine ⟨?_, this.2⟩
          show tI.bif (Nat.blt j o.n) (o.get j) (tI.sel [sideD x.n X Y i] (j - o.n)) = _
          rw [Ty.bif_eq, blt_iff, decide_eq_true (by omega), cond_true]; exact this.1)
      refine ⟨r, b, of_l (l143_6 _ _ _) ?_, h2, h3'⟩
      have hm : (o.n + 1) * 8 ≤ maxRow := by unfold maxRow; omega
      simp only [Int.ofNat_lt, hi, decide_true, cond_true, Int.natCast_nonneg, if_true, Int.toNat_natCast, hn0, if_false, hw, tmod_nat, hlt, cz, hd, g1, cond_false, hm]
      exact h1
end
end Go.Vk.St
end

section
namespace Go.Vk.St
open Go Go.Proofs Go.Vk Go.Q
set_option linter.unusedVariables false
set_option linter.unusedSimpArgs false
set_option maxRecDepth 100000

def sumI (f : Nat → Int) : Nat → Nat → Int
  | _, 0 => 0
  | i, m + 1 => f i + sumI f (i + 1) m
/-- The reference's loop over the turns. -/
def cS (D : Nat → Int) : Nat → Nat → Int → Bool
  | 0, i, s => s == 16
  | m + 1, i, s => bif !(inT ((D (i + 1) - D i) % 16)) then false else cS D m (i + 1) (s + (D (i + 1) - D i) % 16)
theorem cI_iff {D : Nat → Int} {n : Nat} (hn : 1 ≤ n) (per : ∀ i, D (i + n) = D i) : ∀ (m i : Nat) (s b : Int), b = D (i + n - 1) →
    (cI D m i s b = true ↔ (∀ j, i ≤ j → j < i + m → 0 ≤ D j ∧ 0 ≤ D (j + n - 1) ∧ inT ((D j - D (j + n - 1)) % 16) = true) ∧ s + sumI (fun j => (D j - D (j + n - 1)) % 16) i m = 16)
  | 0, i, s, b, hb => by
    show (s == 16) = true ↔ _
    simp only [beq_iff_eq, sumI, Int.add_zero]
    exact ⟨fun h => ⟨fun j h1 h2 => by omega, h⟩, fun h => h.2⟩
  | m + 1, i, s, b, hb => by
    have ih := cI_iff hn per m (i + 1) (s + (D i - b) % 16) (D i) (by rw [show i + 1 + n - 1 = i + n by omega, per])
    rw [show cI D (m + 1) i s b = (bif decide (D i < 0) then false else bif decide (b < 0) then false else bif !(inT ((D i - b) % 16)) then false else cI D m (i + 1) (s + (D i - b) % 16) (D i)) from rfl]
    subst hb
    constructor
    · intro h
      cases g1 : decide (D i < 0)
      · cases g2 : decide (D (i + n - 1) < 0)
        · cases g3 : inT ((D i - D (i + n - 1)) % 16)
          · rw [g1, g2, g3] at h; cases h
          · rw [g1, g2, g3] at h
            obtain ⟨a1, a2⟩ := ih.1 h
            refine ⟨fun j h1 h2 => ?_, ?_⟩
            · by_cases e : j = i
              · subst e; exact ⟨by have := of_decide_eq_false g1; omega, by have := of_decide_eq_false g2; omega, g3⟩
              · exact a1 j (by omega) (by omega)
            · simp only [sumI]; omega
        · rw [g1, g2] at h; cases h
      · rw [g1] at h; cases h
    · rintro ⟨a1, a2⟩
      obtain ⟨b1, b2, b3⟩ := a1 i (by omega) (by omega)
      rw [decide_eq_false (show ¬ D i < 0 by omega), decide_eq_false (show ¬ D (i + n - 1) < 0 by omega), b3]
      refine ih.2 ⟨fun j h1 h2 => a1 j (by omega) (by omega), ?_⟩
      simp only [sumI] at a2; omega
theorem cS_iff {D : Nat → Int} : ∀ (m i : Nat) (s : Int), (cS D m i s = true ↔ (∀ j, i ≤ j → j < i + m → inT ((D (j + 1) - D j) % 16) = true) ∧ s + sumI (fun j => (D (j + 1) - D j) % 16) i m = 16)
  | 0, i, s => by
    show (s == 16) = true ↔ _
    simp only [beq_iff_eq, sumI, Int.add_zero]
    exact ⟨fun h => ⟨fun j h1 h2 => by omega, h⟩, fun h => h.2⟩
  | m + 1, i, s => by
    have ih := cS_iff (D := D) m (i + 1) (s + (D (i + 1) - D i) % 16)
    rw [show cS D (m + 1) i s = (bif !(inT ((D (i + 1) - D i) % 16)) then false else cS D m (i + 1) (s + (D (i + 1) - D i) % 16)) from rfl]
    constructor
    · intro h
      cases g3 : inT ((D (i + 1) - D i) % 16)
      · rw [g3] at h; cases h
      · rw [g3] at h
        obtain ⟨a1, a2⟩ := ih.1 h
        refine ⟨fun j h1 h2 => ?_, ?_⟩
        · by_cases e : j = i
          · subst e; exact g3
          · exact a1 j (by omega) (by omega)
        · simp only [sumI]; omega
    · rintro ⟨a1, a2⟩
      rw [a1 i (by omega) (by omega)]
      refine ih.2 ⟨fun j h1 h2 => a1 j (by omega) (by omega), ?_⟩
      simp only [sumI] at a2; omega
/-- The turns as natural numbers. -/
def dN (D : Nat → Int) (i : Nat) : Nat := (D i).toNat
theorem tn_of {D : Nat → Int} (h0 : ∀ i, 0 ≤ D i) (h1 : ∀ i, D i < 16) (i : Nat) : (D (i + 1) - D i) % 16 = ((tn (dN D) i : Nat) : Int) := by
  unfold tn dN
  have := h0 i
  have := h0 (i + 1)
  have := h1 i
  have := h1 (i + 1)
  omega
theorem sumI_T {f : Nat → Int} {g : Nat → Nat} {k : Nat} (h : ∀ i, f i = ((g (i + k) : Nat) : Int)) : ∀ (m i : Nat), sumI f i m = ((sumT g (i + k) m : Nat) : Int)
  | 0, i => rfl
  | m + 1, i => by
    have ih := sumI_T h m (i + 1)
    rw [sumT_succ]
    simp only [sumI]
    rw [ih, h i, show i + 1 + k = i + k + 1 by omega]
    omega
/-- A convex line, counterclockwise. -/
def Conv (n : Nat) (D : Nat → Int) : Prop := (∀ i, 0 ≤ D i) ∧ (∀ i, 1 ≤ tn (dN D) i ∧ tn (dN D) i ≤ 7) ∧ sumT (tn (dN D)) 0 n = 16
theorem inT_iff (k : Nat) : inT (k : Int) = true ↔ 1 ≤ k ∧ k ≤ 7 := by
  unfold inT inR
  rw [Bool.and_eq_true, decide_eq_true_eq, decide_eq_true_eq]
  omega
theorem per_mod {D : Nat → Int} {n : Nat} (per : ∀ i, D (i + n) = D i) (i : Nat) : D (i % n) = D i := by
  have : ∀ q, D (i % n + q * n) = D (i % n) := fun q => by
    induction q with
    | zero => simp
    | succ q ih => rw [Nat.succ_mul, ← Nat.add_assoc, per, ih]
  have h := this (i / n)
  rw [Nat.mod_add_div'] at h
  exact h.symm
theorem cI_conv {D : Nat → Int} {n : Nat} (hn : 1 ≤ n) (per : ∀ i, D (i + n) = D i) (hlt : ∀ i, D i < 16) : cI D n 0 0 (D (n - 1)) = true ↔ Conv n D := by
  rw [cI_iff hn per n 0 0 _ (by rw [Nat.zero_add])]
  have key : (∀ i, 0 ≤ D i) → ∀ i, (D i - D (i + n - 1)) % 16 = ((tn (dN D) (i + (n - 1)) : Nat) : Int) := fun h0 i => by
    have := tn_of h0 hlt (i + n - 1)
    rw [show i + n - 1 + 1 = i + n by omega, per] at this
    rw [this, show i + n - 1 = i + (n - 1) by omega]
  have perT : (∀ i, 0 ≤ D i) → ∀ i, tn (dN D) (i + n) = tn (dN D) i := fun h0 i => by
    unfold tn dN
    rw [show i + n + 1 = i + 1 + n by omega, per, per]
  constructor
  · rintro ⟨h1, h2⟩
    have h0 : ∀ i, 0 ≤ D i := fun i => by
      rw [← per_mod per i]
      exact (h1 (i % n) (Nat.zero_le _) (by have := Nat.mod_lt i hn; omega)).1
    refine ⟨h0, fun i => ?_, ?_⟩
    · rw [← inT_iff]
      have hm : tn (dN D) i = tn (dN D) (((i + 1) % n) + (n - 1)) := by
        have e1 : tn (dN D) (i + n) = tn (dN D) i := perT h0 i
        have e2 := per_mod (D := fun i => ((tn (dN D) (i + (n - 1)) : Nat) : Int)) (n := n) (fun i => by
          show ((tn (dN D) (i + n + (n - 1)) : Nat) : Int) = _
          rw [show i + n + (n - 1) = i + (n - 1) + n by omega, perT h0]) (i + 1)
        have e3 : ((tn (dN D) ((i + 1) % n + (n - 1)) : Nat) : Int) = ((tn (dN D) (i + 1 + (n - 1)) : Nat) : Int) := e2
        rw [show i + 1 + (n - 1) = i + n by omega, e1] at e3
        omega
      rw [hm, ← key h0]
      exact (h1 ((i + 1) % n) (Nat.zero_le _) (by have := Nat.mod_lt (i + 1) hn; omega)).2.2
    · rw [sumI_T (key h0) n 0, sumT_rot _ n (perT h0)] at h2
      omega
  · rintro ⟨h0, h1, h2⟩
    refine ⟨fun j _ _ => ⟨h0 j, h0 _, ?_⟩, ?_⟩
    · rw [key h0, inT_iff]; exact h1 _
    · rw [sumI_T (key h0) n 0, sumT_rot _ n (perT h0), h2]; rfl
theorem cS_conv {D : Nat → Int} {n : Nat} (hn : 1 ≤ n) (per : ∀ i, D (i + n) = D i) (hlt : ∀ i, D i < 16) (h0 : ∀ i, 0 ≤ D i) : cS D n 0 0 = true ↔ Conv n D := by
  rw [cS_iff]
  have key : ∀ i, (D (i + 1) - D i) % 16 = ((tn (dN D) (i + 0) : Nat) : Int) := fun i => tn_of h0 hlt i
  constructor
  · rintro ⟨h1, h2⟩
    refine ⟨h0, fun i => ?_, ?_⟩
    · rw [← inT_iff]
      have e : tn (dN D) i = tn (dN D) (i % n) := by
        have e2 := per_mod (D := fun i => ((tn (dN D) i : Nat) : Int)) (n := n) (fun i => by
          show ((tn (dN D) (i + n) : Nat) : Int) = _
          unfold tn dN
          rw [show i + n + 1 = i + 1 + n by omega, per, per]) i
        have e3 : ((tn (dN D) (i % n) : Nat) : Int) = ((tn (dN D) i : Nat) : Int) := e2
        omega
      rw [e]
      have := h1 (i % n) (Nat.zero_le _) (by have := Nat.mod_lt i hn; omega)
      rw [key, Nat.add_zero] at this
      exact this
    · rw [sumI_T key n 0] at h2
      simp at h2; omega
  · rintro ⟨_, h1, h2⟩
    refine ⟨fun j _ _ => ?_, ?_⟩
    · rw [key, inT_iff]; exact h1 _
    · rw [sumI_T key n 0, Nat.add_zero, h2]; rfl
end Go.Vk.St
end
