/- Facts of the translation's types, for the kernel (own work, by a program of this repo). -/
import Derived.Test.YtoaalclbplgegaaProg
import Derived.Test.YtoaalclbplgegaaSlI
namespace Go.Proofs.Ytoaalclbplgegaa
open Go.Sl
theorem ag_101 : isAggT Try.prog 101 = some false := by kernel_rfl
theorem ag_25 : isAggT Try.prog 25 = some false := by kernel_rfl
theorem ag_27 : isAggT Try.prog 27 = some true := by kernel_rfl
theorem ag_32 : isAggT Try.prog 32 = some true := by kernel_rfl
theorem ag_34 : isAggT Try.prog 34 = some true := by kernel_rfl
theorem fl_32_0 : fldT Try.prog 32 0 = some 0 := by kernel_rfl
theorem fl_32_1 : fldT Try.prog 32 1 = some 1 := by kernel_rfl
theorem fl_32_2 : fldT Try.prog 32 2 = some 2 := by kernel_rfl
theorem fl_51_0 : fldT Try.prog 51 0 = some 0 := by kernel_rfl
theorem fl_51_1 : fldT Try.prog 51 1 = some 1 := by kernel_rfl
theorem fl_51_2 : fldT Try.prog 51 2 = some 2 := by kernel_rfl
theorem pl_32 : placesT Try.prog 32 = some [(0, 1), (1, 1), (2, 1)] := by kernel_rfl
theorem pl_51 : placesT Try.prog 51 = some [(0, 1), (1, 1), (2, 3)] := by kernel_rfl
theorem sz_101 : szT Try.prog 101 = some 1 := by kernel_rfl
theorem sz_102 : szT Try.prog 102 = some 3 := by kernel_rfl
theorem sz_26 : szT Try.prog 26 = some 1 := by kernel_rfl
theorem sz_27 : szT Try.prog 27 = some 2 := by kernel_rfl
theorem sz_32 : szT Try.prog 32 = some 3 := by kernel_rfl
theorem sz_34 : szT Try.prog 34 = some 3 := by kernel_rfl
theorem sz_58 : szT Try.prog 58 = some 2 := by kernel_rfl
theorem us_5 : (Try.prog.underlying 5).isSome = true := by kernel_rfl
theorem zl_102 : zeroL Try.prog 102 = some (List.replicate 3 (.pointer none)) := by kernel_rfl
theorem zl_27 : zeroL Try.prog 27 = some (List.replicate 2 (.slice none 0 0)) := by kernel_rfl
theorem zl_32 : zeroL Try.prog 32 = some ([.int .i64 0, .int .i64 0, .int .i64 0]) := by kernel_rfl
theorem zl_34 : zeroL Try.prog 34 = some (List.replicate 3 (.int .i64 0)) := by kernel_rfl
theorem zl_51 : zeroL Try.prog 51 = some ([.pointer none, .int .i64 0] ++ [.int .i64 0, .int .i64 0, .int .i64 0]) := by kernel_rfl
end Go.Proofs.Ytoaalclbplgegaa
