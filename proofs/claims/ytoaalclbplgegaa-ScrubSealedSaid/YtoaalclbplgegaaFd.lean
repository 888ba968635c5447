/- Facts of the translation's types, for the kernel (own work, by a program of this repo). -/
import Derived.Test.YtoaalclbplgegaaProg
import Derived.Test.YtoaalclbplgegaaSlI
namespace Go.Proofs.Ytoaalclbplgegaa
open Go.Sl
theorem by_40 : byT Try.prog 40 = some 8 := by kernel_rfl
theorem by_58 : byT Try.prog 58 = some 2 := by kernel_rfl
theorem eg_32 : Try.prog.eqGuardType Try.prog.depth 32 = false := by kernel_rfl
theorem fi_32 : intFieldsT Try.prog 32 = some [.i64, .i64, .i64] := by kernel_rfl
theorem ni_57 : notIntT Try.prog 57 = true := by kernel_rfl
theorem us_3 : (Try.prog.underlying 3).isSome = true := by kernel_rfl
theorem zl_58 : zeroL Try.prog 58 = some (List.replicate 2 (.int .u8 0)) := by kernel_rfl
end Go.Proofs.Ytoaalclbplgegaa
