/- Facts of the translation's types, for the kernel (own work, by a program of this repo). -/
import Derived.Test.YtjiojffakejgjaaProg
import Derived.Test.YtjiojffakejgjaaSlF
namespace Go.Proofs.Ytjiojffakejgjaa
open Go.Sl
theorem ag_1 : isAggT Try.prog 1 = some false := by kernel_rfl
theorem ag_22 : isAggT Try.prog 22 = some false := by kernel_rfl
theorem ag_24 : isAggT Try.prog 24 = some true := by kernel_rfl
theorem ag_25 : isAggT Try.prog 25 = some false := by kernel_rfl
theorem ag_3 : isAggT Try.prog 3 = some false := by kernel_rfl
theorem ag_36 : isAggT Try.prog 36 = some false := by kernel_rfl
theorem ag_4 : isAggT Try.prog 4 = some false := by kernel_rfl
theorem ag_41 : isAggT Try.prog 41 = some false := by kernel_rfl
theorem ag_44 : isAggT Try.prog 44 = some true := by kernel_rfl
theorem ag_48 : isAggT Try.prog 48 = some false := by kernel_rfl
theorem ag_5 : isAggT Try.prog 5 = some false := by kernel_rfl
theorem ag_86 : isAggT Try.prog 86 = some false := by kernel_rfl
theorem ag_89 : isAggT Try.prog 89 = some false := by kernel_rfl
theorem ag_94 : isAggT Try.prog 94 = some true := by kernel_rfl
theorem by_1 : byT Try.prog 1 = some 8 := by kernel_rfl
theorem by_44 : byT Try.prog 44 = some 128 := by kernel_rfl
theorem by_5 : byT Try.prog 5 = some 1 := by kernel_rfl
theorem by_94 : byT Try.prog 94 = some 136 := by kernel_rfl
theorem eg_24 : Try.prog.eqGuardType Try.prog.depth 24 = false := by kernel_rfl
theorem eg_44 : Try.prog.eqGuardType Try.prog.depth 44 = false := by kernel_rfl
theorem fi_24 : intFieldsT Try.prog 24 = some [.u64, .i64, .u64] := by kernel_rfl
theorem fl_24_0 : fldT Try.prog 24 0 = some 0 := by kernel_rfl
theorem fl_24_1 : fldT Try.prog 24 1 = some 1 := by kernel_rfl
theorem fl_24_2 : fldT Try.prog 24 2 = some 2 := by kernel_rfl
theorem fl_57_2 : fldT Try.prog 57 2 = some 2 := by kernel_rfl
theorem fl_57_4 : fldT Try.prog 57 4 = some 4 := by kernel_rfl
theorem fl_88_0 : fldT Try.prog 88 0 = some 0 := by kernel_rfl
theorem fl_88_1 : fldT Try.prog 88 1 = some 1 := by kernel_rfl
theorem fl_88_2 : fldT Try.prog 88 2 = some 2 := by kernel_rfl
theorem fl_88_3 : fldT Try.prog 88 3 = some 3 := by kernel_rfl
theorem fl_91_0 : fldT Try.prog 91 0 = some 0 := by kernel_rfl
theorem fl_91_1 : fldT Try.prog 91 1 = some 1 := by kernel_rfl
theorem fl_91_2 : fldT Try.prog 91 2 = some 2 := by kernel_rfl
theorem fl_91_3 : fldT Try.prog 91 3 = some 3 := by kernel_rfl
theorem fl_91_4 : fldT Try.prog 91 4 = some 4 := by kernel_rfl
theorem fl_91_5 : fldT Try.prog 91 5 = some 5 := by kernel_rfl
theorem fl_91_6 : fldT Try.prog 91 6 = some 6 := by kernel_rfl
theorem fl_94_0 : fldT Try.prog 94 0 = some 0 := by kernel_rfl
theorem fl_94_1 : fldT Try.prog 94 1 = some 1 := by kernel_rfl
theorem ni_25 : notIntT Try.prog 25 = true := by kernel_rfl
theorem ni_48 : notIntT Try.prog 48 = true := by kernel_rfl
theorem ni_86 : notIntT Try.prog 86 = true := by kernel_rfl
theorem ni_89 : notIntT Try.prog 89 = true := by kernel_rfl
theorem pl_24 : placesT Try.prog 24 = some [(0, 1), (1, 1), (2, 1)] := by kernel_rfl
theorem pl_88 : placesT Try.prog 88 = some [(0, 1), (1, 1), (2, 1), (3, 1)] := by kernel_rfl
theorem pl_91 : placesT Try.prog 91 = some [(0, 1), (1, 1), (2, 1), (3, 1), (4, 1), (5, 1), (6, 1)] := by kernel_rfl
theorem pl_94 : placesT Try.prog 94 = some [(0, 1), (1, 128)] := by kernel_rfl
theorem sz_1 : szT Try.prog 1 = some 1 := by kernel_rfl
theorem sz_24 : szT Try.prog 24 = some 3 := by kernel_rfl
theorem sz_25 : szT Try.prog 25 = some 1 := by kernel_rfl
theorem sz_3 : szT Try.prog 3 = some 1 := by kernel_rfl
theorem sz_4 : szT Try.prog 4 = some 1 := by kernel_rfl
theorem sz_41 : szT Try.prog 41 = some 1 := by kernel_rfl
theorem sz_44 : szT Try.prog 44 = some 128 := by kernel_rfl
theorem sz_5 : szT Try.prog 5 = some 1 := by kernel_rfl
theorem sz_57 : szT Try.prog 57 = some 5 := by kernel_rfl
theorem sz_86 : szT Try.prog 86 = some 1 := by kernel_rfl
theorem sz_89 : szT Try.prog 89 = some 1 := by kernel_rfl
theorem sz_94 : szT Try.prog 94 = some 129 := by kernel_rfl
theorem us_22 : (Try.prog.underlying 22).isSome = true := by kernel_rfl
theorem us_3 : (Try.prog.underlying 3).isSome = true := by kernel_rfl
theorem us_5 : (Try.prog.underlying 5).isSome = true := by kernel_rfl
theorem zl_1 : zeroL Try.prog 1 = some ([.nilFunc]) := by kernel_rfl
theorem zl_24 : zeroL Try.prog 24 = some ([.int .u64 0, .int .i64 0, .int .u64 0]) := by kernel_rfl
theorem zl_25 : zeroL Try.prog 25 = some ([.slice none 0 0]) := by kernel_rfl
theorem zl_41 : zeroL Try.prog 41 = some ([.int .i64 0]) := by kernel_rfl
theorem zl_44 : zeroL Try.prog 44 = some (List.replicate 128 (.int .u8 0)) := by kernel_rfl
theorem zl_5 : zeroL Try.prog 5 = some ([.int .u8 0]) := by kernel_rfl
theorem zl_88 : zeroL Try.prog 88 = some ([.bool false, .int .i64 0, .bool false, .slice none 0 0]) := by kernel_rfl
theorem zl_91 : zeroL Try.prog 91 = some ([.pointer none, .slice none 0 0, .slice none 0 0, .int .i64 0, .int .i64 0, .bool false, .bool false]) := by kernel_rfl
theorem zl_94 : zeroL Try.prog 94 = some ([.int .i64 0] ++ (List.replicate 128 (.int .u8 0))) := by kernel_rfl
end Go.Proofs.Ytjiojffakejgjaa
