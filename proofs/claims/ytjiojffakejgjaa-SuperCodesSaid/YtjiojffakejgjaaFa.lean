/- Facts of the translation's types, for the kernel (own work, by a program of this repo). -/
import Derived.Test.YtjiojffakejgjaaProg
import Derived.Test.YtjiojffakejgjaaSlF
namespace Go.Proofs.Ytjiojffakejgjaa
open Go.Sl
theorem ag_22 : isAggT Try.prog 22 = some false := by kernel_rfl
theorem ag_24 : isAggT Try.prog 24 = some true := by kernel_rfl
theorem ag_25 : isAggT Try.prog 25 = some false := by kernel_rfl
theorem ag_3 : isAggT Try.prog 3 = some false := by kernel_rfl
theorem ag_5 : isAggT Try.prog 5 = some false := by kernel_rfl
theorem by_5 : byT Try.prog 5 = some 1 := by kernel_rfl
theorem eg_24 : Try.prog.eqGuardType Try.prog.depth 24 = false := by kernel_rfl
theorem fi_24 : intFieldsT Try.prog 24 = some [.u64, .i64, .u64] := by kernel_rfl
theorem fl_24_0 : fldT Try.prog 24 0 = some 0 := by kernel_rfl
theorem fl_24_1 : fldT Try.prog 24 1 = some 1 := by kernel_rfl
theorem fl_24_2 : fldT Try.prog 24 2 = some 2 := by kernel_rfl
theorem ni_25 : notIntT Try.prog 25 = true := by kernel_rfl
theorem pl_24 : placesT Try.prog 24 = some [(0, 1), (1, 1), (2, 1)] := by kernel_rfl
theorem sz_24 : szT Try.prog 24 = some 3 := by kernel_rfl
theorem sz_25 : szT Try.prog 25 = some 1 := by kernel_rfl
theorem sz_5 : szT Try.prog 5 = some 1 := by kernel_rfl
theorem us_22 : (Try.prog.underlying 22).isSome = true := by kernel_rfl
theorem us_3 : (Try.prog.underlying 3).isSome = true := by kernel_rfl
theorem us_5 : (Try.prog.underlying 5).isSome = true := by kernel_rfl
theorem zl_24 : zeroL Try.prog 24 = some ([.int .u64 0, .int .i64 0, .int .u64 0]) := by kernel_rfl
theorem zl_25 : zeroL Try.prog 25 = some ([.slice none 0 0]) := by kernel_rfl
theorem zl_5 : zeroL Try.prog 5 = some ([.int .u8 0]) := by kernel_rfl
end Go.Proofs.Ytjiojffakejgjaa
