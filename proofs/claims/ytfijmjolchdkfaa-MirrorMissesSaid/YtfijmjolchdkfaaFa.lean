/- Facts of the translation's types, for the kernel (own work, by a program of this repo). -/
import Derived.Test.YtfijmjolchdkfaaProg
import Derived.Test.YtfijmjolchdkfaaSlI
namespace Go.Proofs.Ytfijmjolchdkfaa
open Go.Sl
theorem ag_1 : isAggT Try.prog 1 = some false := by kernel_rfl
theorem ag_117 : isAggT Try.prog 117 = some true := by kernel_rfl
theorem ag_29 : isAggT Try.prog 29 = some false := by kernel_rfl
theorem ag_3 : isAggT Try.prog 3 = some false := by kernel_rfl
theorem ag_32 : isAggT Try.prog 32 = some true := by kernel_rfl
theorem ag_4 : isAggT Try.prog 4 = some false := by kernel_rfl
theorem ag_40 : isAggT Try.prog 40 = some false := by kernel_rfl
theorem ag_43 : isAggT Try.prog 43 = some false := by kernel_rfl
theorem ag_5 : isAggT Try.prog 5 = some false := by kernel_rfl
theorem ag_93 : isAggT Try.prog 93 = some false := by kernel_rfl
theorem ag_96 : isAggT Try.prog 96 = some false := by kernel_rfl
theorem by_1 : byT Try.prog 1 = some 8 := by kernel_rfl
theorem by_117 : byT Try.prog 117 = some 136 := by kernel_rfl
theorem by_32 : byT Try.prog 32 = some 128 := by kernel_rfl
theorem fl_117_0 : fldT Try.prog 117 0 = some 0 := by kernel_rfl
theorem fl_117_1 : fldT Try.prog 117 1 = some 1 := by kernel_rfl
theorem fl_95_0 : fldT Try.prog 95 0 = some 0 := by kernel_rfl
theorem fl_95_1 : fldT Try.prog 95 1 = some 1 := by kernel_rfl
theorem fl_95_2 : fldT Try.prog 95 2 = some 2 := by kernel_rfl
theorem fl_95_3 : fldT Try.prog 95 3 = some 3 := by kernel_rfl
theorem fl_95_4 : fldT Try.prog 95 4 = some 4 := by kernel_rfl
theorem fl_95_5 : fldT Try.prog 95 5 = some 5 := by kernel_rfl
theorem fl_95_6 : fldT Try.prog 95 6 = some 6 := by kernel_rfl
theorem fl_98_0 : fldT Try.prog 98 0 = some 0 := by kernel_rfl
theorem fl_98_1 : fldT Try.prog 98 1 = some 1 := by kernel_rfl
theorem fl_98_2 : fldT Try.prog 98 2 = some 2 := by kernel_rfl
theorem fl_98_3 : fldT Try.prog 98 3 = some 3 := by kernel_rfl
theorem ni_40 : notIntT Try.prog 40 = true := by kernel_rfl
theorem ni_93 : notIntT Try.prog 93 = true := by kernel_rfl
theorem ni_96 : notIntT Try.prog 96 = true := by kernel_rfl
theorem pl_117 : placesT Try.prog 117 = some [(0, 1), (1, 128)] := by kernel_rfl
theorem pl_95 : placesT Try.prog 95 = some [(0, 1), (1, 1), (2, 1), (3, 1), (4, 1), (5, 1), (6, 1)] := by kernel_rfl
theorem pl_98 : placesT Try.prog 98 = some [(0, 1), (1, 1), (2, 1), (3, 1)] := by kernel_rfl
theorem sz_1 : szT Try.prog 1 = some 1 := by kernel_rfl
theorem sz_117 : szT Try.prog 117 = some 129 := by kernel_rfl
theorem sz_29 : szT Try.prog 29 = some 1 := by kernel_rfl
theorem sz_3 : szT Try.prog 3 = some 1 := by kernel_rfl
theorem sz_32 : szT Try.prog 32 = some 128 := by kernel_rfl
theorem sz_4 : szT Try.prog 4 = some 1 := by kernel_rfl
theorem sz_5 : szT Try.prog 5 = some 1 := by kernel_rfl
theorem sz_93 : szT Try.prog 93 = some 1 := by kernel_rfl
theorem sz_96 : szT Try.prog 96 = some 1 := by kernel_rfl
theorem zl_1 : zeroL Try.prog 1 = some ([.nilFunc]) := by kernel_rfl
theorem zl_117 : zeroL Try.prog 117 = some ([.int .i64 0] ++ (List.replicate 128 (.int .u8 0))) := by kernel_rfl
theorem zl_29 : zeroL Try.prog 29 = some ([.int .i64 0]) := by kernel_rfl
theorem zl_32 : zeroL Try.prog 32 = some (List.replicate 128 (.int .u8 0)) := by kernel_rfl
theorem zl_95 : zeroL Try.prog 95 = some ([.pointer none, .slice none 0 0, .slice none 0 0, .int .i64 0, .int .i64 0, .bool false, .bool false]) := by kernel_rfl
theorem zl_98 : zeroL Try.prog 98 = some ([.bool false, .int .i64 0, .bool false, .slice none 0 0]) := by kernel_rfl
end Go.Proofs.Ytfijmjolchdkfaa
