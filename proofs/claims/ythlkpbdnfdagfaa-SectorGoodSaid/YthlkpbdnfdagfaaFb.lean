/- Facts of the translation's types, for the kernel (own work, by a program of this repo). -/
import Derived.Test.YthlkpbdnfdagfaaProg
import Derived.Test.YthlkpbdnfdagfaaSlI
namespace Go.Proofs.Ythlkpbdnfdagfaa
open Go.Sl
theorem ag_22 : isAggT Try.prog 22 = some false := by kernel_rfl
theorem ag_41 : isAggT Try.prog 41 = some false := by kernel_rfl
theorem ag_66 : isAggT Try.prog 66 = some false := by kernel_rfl
theorem pl_33 : placesT Try.prog 33 = some [(0, 32), (32, 1), (33, 32)] := by kernel_rfl
theorem sz_22 : szT Try.prog 22 = some 1 := by kernel_rfl
theorem sz_41 : szT Try.prog 41 = some 1 := by kernel_rfl
theorem us_41 : (Try.prog.underlying 41).isSome = true := by kernel_rfl
theorem zl_33 : zeroL Try.prog 33 = some ((List.replicate 32 (.int .u8 0)) ++ [.int .u64 0] ++ (List.replicate 32 (.int .u8 0))) := by kernel_rfl
end Go.Proofs.Ythlkpbdnfdagfaa
