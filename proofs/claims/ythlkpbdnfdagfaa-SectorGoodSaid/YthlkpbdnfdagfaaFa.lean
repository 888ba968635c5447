/- Facts of the translation's types, for the kernel (own work, by a program of this repo). -/
import Derived.Test.YthlkpbdnfdagfaaProg
import Derived.Test.YthlkpbdnfdagfaaSlI
namespace Go.Proofs.Ythlkpbdnfdagfaa
open Go.Sl
theorem ag_26 : isAggT Try.prog 26 = some true := by kernel_rfl
theorem ag_30 : isAggT Try.prog 30 = some true := by kernel_rfl
theorem ag_5 : isAggT Try.prog 5 = some false := by kernel_rfl
theorem ag_70 : isAggT Try.prog 70 = some true := by kernel_rfl
theorem by_5 : byT Try.prog 5 = some 1 := by kernel_rfl
theorem eg_26 : Try.prog.eqGuardType Try.prog.depth 26 = false := by kernel_rfl
theorem if_66 : ifcT Try.prog 66 = true := by kernel_rfl
theorem me_33_Sum : methT Try.prog 33 "Sum" = some (73, false) := by kernel_rfl
theorem ni_23 : notIntT Try.prog 23 = true := by kernel_rfl
theorem rc_33 : recvT Try.prog 33 false = true := by kernel_rfl
theorem sz_26 : szT Try.prog 26 = some 128 := by kernel_rfl
theorem sz_30 : szT Try.prog 30 = some 32 := by kernel_rfl
theorem sz_5 : szT Try.prog 5 = some 1 := by kernel_rfl
theorem sz_70 : szT Try.prog 70 = some 16 := by kernel_rfl
theorem us_22 : (Try.prog.underlying 22).isSome = true := by kernel_rfl
theorem us_3 : (Try.prog.underlying 3).isSome = true := by kernel_rfl
theorem us_5 : (Try.prog.underlying 5).isSome = true := by kernel_rfl
theorem zl_26 : zeroL Try.prog 26 = some (List.replicate 128 (.int .u8 0)) := by kernel_rfl
theorem zl_30 : zeroL Try.prog 30 = some (List.replicate 32 (.int .u8 0)) := by kernel_rfl
theorem zl_5 : zeroL Try.prog 5 = some ([.int .u8 0]) := by kernel_rfl
theorem zl_70 : zeroL Try.prog 70 = some (List.replicate 16 (.int .u8 0)) := by kernel_rfl
end Go.Proofs.Ythlkpbdnfdagfaa
