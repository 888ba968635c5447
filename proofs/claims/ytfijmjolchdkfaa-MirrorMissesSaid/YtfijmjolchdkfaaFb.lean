/- Facts of the translation's types, for the kernel (own work, by a program of this repo). -/
import Derived.Test.YtfijmjolchdkfaaProg
import Derived.Test.YtfijmjolchdkfaaSlI
namespace Go.Proofs.Ytfijmjolchdkfaa
open Go.Sl
theorem ag_101 : isAggT Try.prog 101 = some true := by kernel_rfl
theorem ag_24 : isAggT Try.prog 24 = some false := by kernel_rfl
theorem ag_28 : isAggT Try.prog 28 = some false := by kernel_rfl
theorem ag_99 : isAggT Try.prog 99 = some false := by kernel_rfl
theorem by_3 : byT Try.prog 3 = some 8 := by kernel_rfl
theorem eg_32 : Try.prog.eqGuardType Try.prog.depth 32 = false := by kernel_rfl
theorem fl_101_0 : fldT Try.prog 101 0 = some 0 := by kernel_rfl
theorem fl_101_1 : fldT Try.prog 101 1 = some 1 := by kernel_rfl
theorem fl_104_0 : fldT Try.prog 104 0 = some 0 := by kernel_rfl
theorem fl_104_1 : fldT Try.prog 104 1 = some 4 := by kernel_rfl
theorem fl_104_2 : fldT Try.prog 104 2 = some 5 := by kernel_rfl
theorem ni_112 : notIntT Try.prog 112 = true := by kernel_rfl
theorem pl_101 : placesT Try.prog 101 = some [(0, 1), (1, 1)] := by kernel_rfl
theorem pl_104 : placesT Try.prog 104 = some [(0, 4), (4, 1), (5, 1)] := by kernel_rfl
theorem sz_101 : szT Try.prog 101 = some 2 := by kernel_rfl
theorem sz_24 : szT Try.prog 24 = some 1 := by kernel_rfl
theorem zl_101 : zeroL Try.prog 101 = some ([.pointer none, .map none]) := by kernel_rfl
theorem zl_104 : zeroL Try.prog 104 = some (((List.replicate 2 (([.pointer none, .map none]))).flatten) ++ [.int .i64 0, .nilFunc]) := by kernel_rfl
theorem zl_114 : zeroL Try.prog 114 = some ((List.replicate 2 ((List.replicate 128 (.int .u8 0)))).flatten) := by kernel_rfl
theorem zl_24 : zeroL Try.prog 24 = some ([.pointer none]) := by kernel_rfl
theorem zl_3 : zeroL Try.prog 3 = some ([.int .i64 0]) := by kernel_rfl
theorem zl_66 : zeroL Try.prog 66 = some (List.replicate 2 (.bool false)) := by kernel_rfl
theorem zt_4 : zeroT Try.prog 4 = some (.bool false) := by kernel_rfl
end Go.Proofs.Ytfijmjolchdkfaa
