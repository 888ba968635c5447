/- Facts of the translation's types, for the kernel (own work, by a program of this repo). -/
import Derived.Test.YtoaalclbplgegaaProg
import Derived.Test.YtoaalclbplgegaaSlI
namespace Go.Proofs.Ytoaalclbplgegaa
open Go.Sl
theorem ag_106 : isAggT Try.prog 106 = some true := by kernel_rfl
theorem ag_24 : isAggT Try.prog 24 = some false := by kernel_rfl
theorem ag_56 : isAggT Try.prog 56 = some false := by kernel_rfl
theorem ag_70 : isAggT Try.prog 70 = some false := by kernel_rfl
theorem by_3 : byT Try.prog 3 = some 8 := by kernel_rfl
theorem eg_37 : Try.prog.eqGuardType Try.prog.depth 37 = false := by kernel_rfl
theorem fl_106_0 : fldT Try.prog 106 0 = some 0 := by kernel_rfl
theorem fl_106_1 : fldT Try.prog 106 1 = some 1 := by kernel_rfl
theorem fl_109_0 : fldT Try.prog 109 0 = some 0 := by kernel_rfl
theorem fl_109_1 : fldT Try.prog 109 1 = some 4 := by kernel_rfl
theorem fl_109_2 : fldT Try.prog 109 2 = some 5 := by kernel_rfl
theorem ni_103 : notIntT Try.prog 103 = true := by kernel_rfl
theorem ni_26 : notIntT Try.prog 26 = true := by kernel_rfl
theorem pl_106 : placesT Try.prog 106 = some [(0, 1), (1, 1)] := by kernel_rfl
theorem pl_109 : placesT Try.prog 109 = some [(0, 4), (4, 1), (5, 1)] := by kernel_rfl
theorem sz_106 : szT Try.prog 106 = some 2 := by kernel_rfl
theorem sz_24 : szT Try.prog 24 = some 1 := by kernel_rfl
theorem zl_106 : zeroL Try.prog 106 = some ([.pointer none, .map none]) := by kernel_rfl
theorem zl_109 : zeroL Try.prog 109 = some (((List.replicate 2 (([.pointer none, .map none]))).flatten) ++ [.int .i64 0, .nilFunc]) := by kernel_rfl
theorem zl_131 : zeroL Try.prog 131 = some ((List.replicate 2 ((List.replicate 128 (.int .u8 0)))).flatten) := by kernel_rfl
theorem zl_132 : zeroL Try.prog 132 = some (List.replicate 2 (.bool false)) := by kernel_rfl
theorem zl_24 : zeroL Try.prog 24 = some ([.pointer none]) := by kernel_rfl
theorem zl_3 : zeroL Try.prog 3 = some ([.int .i64 0]) := by kernel_rfl
theorem zt_4 : zeroT Try.prog 4 = some (.bool false) := by kernel_rfl
end Go.Proofs.Ytoaalclbplgegaa
