/- Facts of the translation's types, for the kernel (own work, by a program of this repo). -/
import Derived.Test.YtoaalclbplgegaaProg
import Derived.Test.YtoaalclbplgegaaSlI
namespace Go.Proofs.Ytoaalclbplgegaa
open Go.Sl
theorem ag_1 : isAggT Try.prog 1 = some false := by kernel_rfl
theorem ag_113 : isAggT Try.prog 113 = some false := by kernel_rfl
theorem ag_26 : isAggT Try.prog 26 = some false := by kernel_rfl
theorem ag_3 : isAggT Try.prog 3 = some false := by kernel_rfl
theorem ag_37 : isAggT Try.prog 37 = some true := by kernel_rfl
theorem ag_4 : isAggT Try.prog 4 = some false := by kernel_rfl
theorem ag_40 : isAggT Try.prog 40 = some false := by kernel_rfl
theorem ag_5 : isAggT Try.prog 5 = some false := by kernel_rfl
theorem ag_64 : isAggT Try.prog 64 = some false := by kernel_rfl
theorem ag_93 : isAggT Try.prog 93 = some false := by kernel_rfl
theorem ag_95 : isAggT Try.prog 95 = some true := by kernel_rfl
theorem by_1 : byT Try.prog 1 = some 8 := by kernel_rfl
theorem by_37 : byT Try.prog 37 = some 128 := by kernel_rfl
theorem by_95 : byT Try.prog 95 = some 136 := by kernel_rfl
theorem fl_115_0 : fldT Try.prog 115 0 = some 0 := by kernel_rfl
theorem fl_115_1 : fldT Try.prog 115 1 = some 1 := by kernel_rfl
theorem fl_115_2 : fldT Try.prog 115 2 = some 2 := by kernel_rfl
theorem fl_115_3 : fldT Try.prog 115 3 = some 3 := by kernel_rfl
theorem fl_95_0 : fldT Try.prog 95 0 = some 0 := by kernel_rfl
theorem fl_95_1 : fldT Try.prog 95 1 = some 1 := by kernel_rfl
theorem fl_97_0 : fldT Try.prog 97 0 = some 0 := by kernel_rfl
theorem fl_97_1 : fldT Try.prog 97 1 = some 1 := by kernel_rfl
theorem fl_97_2 : fldT Try.prog 97 2 = some 2 := by kernel_rfl
theorem fl_97_3 : fldT Try.prog 97 3 = some 3 := by kernel_rfl
theorem fl_97_4 : fldT Try.prog 97 4 = some 4 := by kernel_rfl
theorem fl_97_5 : fldT Try.prog 97 5 = some 5 := by kernel_rfl
theorem fl_97_6 : fldT Try.prog 97 6 = some 6 := by kernel_rfl
theorem ni_113 : notIntT Try.prog 113 = true := by kernel_rfl
theorem ni_93 : notIntT Try.prog 93 = true := by kernel_rfl
theorem pl_115 : placesT Try.prog 115 = some [(0, 1), (1, 1), (2, 1), (3, 1)] := by kernel_rfl
theorem pl_95 : placesT Try.prog 95 = some [(0, 1), (1, 128)] := by kernel_rfl
theorem pl_97 : placesT Try.prog 97 = some [(0, 1), (1, 1), (2, 1), (3, 1), (4, 1), (5, 1), (6, 1)] := by kernel_rfl
theorem sz_1 : szT Try.prog 1 = some 1 := by kernel_rfl
theorem sz_113 : szT Try.prog 113 = some 1 := by kernel_rfl
theorem sz_3 : szT Try.prog 3 = some 1 := by kernel_rfl
theorem sz_37 : szT Try.prog 37 = some 128 := by kernel_rfl
theorem sz_4 : szT Try.prog 4 = some 1 := by kernel_rfl
theorem sz_40 : szT Try.prog 40 = some 1 := by kernel_rfl
theorem sz_5 : szT Try.prog 5 = some 1 := by kernel_rfl
theorem sz_93 : szT Try.prog 93 = some 1 := by kernel_rfl
theorem sz_95 : szT Try.prog 95 = some 129 := by kernel_rfl
theorem zl_1 : zeroL Try.prog 1 = some ([.nilFunc]) := by kernel_rfl
theorem zl_115 : zeroL Try.prog 115 = some ([.bool false, .int .i64 0, .bool false, .slice none 0 0]) := by kernel_rfl
theorem zl_37 : zeroL Try.prog 37 = some (List.replicate 128 (.int .u8 0)) := by kernel_rfl
theorem zl_40 : zeroL Try.prog 40 = some ([.int .i64 0]) := by kernel_rfl
theorem zl_95 : zeroL Try.prog 95 = some ([.int .i64 0] ++ (List.replicate 128 (.int .u8 0))) := by kernel_rfl
theorem zl_97 : zeroL Try.prog 97 = some ([.pointer none, .slice none 0 0, .slice none 0 0, .int .i64 0, .int .i64 0, .bool false, .bool false]) := by kernel_rfl
end Go.Proofs.Ytoaalclbplgegaa
