/- Facts of the translation's types, for the kernel (own work, by a program of this repo). -/
import Derived.Test.YtfijmjolchdkfaaProg
import Derived.Test.YtfijmjolchdkfaaSlI
namespace Go.Proofs.Ytfijmjolchdkfaa
open Go.Sl
theorem sz_50 : szT Try.prog 50 = some 2 := by kernel_rfl
theorem us_5 : (Try.prog.underlying 5).isSome = true := by kernel_rfl
end Go.Proofs.Ytfijmjolchdkfaa
