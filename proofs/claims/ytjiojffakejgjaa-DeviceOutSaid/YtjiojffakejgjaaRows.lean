/-
  No cell of these rows narrows 'for every input' (looked for: loops, veiled, ifaces, maps, wideKeys, modest, calm, conditions, laid).
  DERIVED. THE GIVEN ROWS OF THIS SEAT. 11 by the template 'for every input the law returns true; each argument reads behind the call as it read before'; 0 by the template 'total and deterministic' (their statements: YtjiojffakejgjaaTotals.lean).
  GIVEN WITH THE SEED: the statements are not yours to turn. If you find one false, say at which input.
  Laid BY PROGRAM, IN A SANDBOX (cutbox-rows.mjs): the forced cells as the released guide's own fill.sh prints them over the translation 4d03227bd9fb6ce8… (all of the seat's roots in one cut). By AI agents, Wed Nov 11 2026. No macro, syntax, notation, axiom, sorry.
-/
import Derived.Test.YtjiojffakejgjaaChecked
import GoSem.Claim
import GoSem.ClaimJoined
import GoSem.ClaimMapViews
import Derived.JoinedTies
import Derived.KernelRfl
namespace Go.Proofs.Ytjiojffakejgjaa
/- THE CELL 'sum', in the pinned program and in every row, IS THE sha256 OF THE DUMP (.gsa) THAT YtjiojffakejgjaaProg.lean LOADS. Nothing in Lean hashes anything: it is a label: what it is worth is what the hold of that sum in a sandbox is worth. -/
noncomputable def Try.pinned : Pinned := { name := "ytjiojffakejgjaa", sum := "4d03227bd9fb6ce86c95379430501201cbd9ff1ca80ff9e7f12b9e4fe1661eef", checked := Try.checked }
namespace Rows
def none {H : Type} : Left H := { results := [], args := [] }

/-- 'erewhilelaw16.SuperCodes': WHATEVER THE INPUT: true; the input reads as it did. -/
def superCodesSpec : ChangeSpec := { name := "superCodes", fn := fun _ => fun
  | [d1, d2, d3] => { results := [.lit (.bool true)], args := [d1, d2, d3] }
  | _ => none }
def superCodesRow : OpenClaim := { program := "ytjiojffakejgjaa", sum := "4d03227bd9fb6ce86c95379430501201cbd9ff1ca80ff9e7f12b9e4fe1661eef", func := "erewhile/erewhilelaw16.SuperCodes", spec := "superCodes", apart := false }
def SuperCodesSaid : Prop := superCodesRow.holds Try.pinned (OpenSpec.ofChange superCodesSpec)

/-- ITS FALSE NEIGHBOUR: 'it returns false'. Refute it at one input. -/
def superCodesWrong : ChangeSpec := { name := "superCodes", fn := fun _ => fun
  | [d1, d2, d3] => { results := [.lit (.bool false)], args := [d1, d2, d3] }
  | _ => none }
def SuperCodesWrongFalsely : Prop := superCodesRow.holds Try.pinned (OpenSpec.ofChange superCodesWrong)

/-- 'erewhilelaw16.SuperDecodes': WHATEVER THE INPUT: true; the input reads as it did. -/
def superDecodesSpec : ChangeSpec := { name := "superDecodes", fn := fun _ => fun
  | [d] => { results := [.lit (.bool true)], args := [d] }
  | _ => none }
def superDecodesRow : OpenClaim := { program := "ytjiojffakejgjaa", sum := "4d03227bd9fb6ce86c95379430501201cbd9ff1ca80ff9e7f12b9e4fe1661eef", func := "erewhile/erewhilelaw16.SuperDecodes", spec := "superDecodes", apart := false }
def SuperDecodesSaid : Prop := superDecodesRow.holds Try.pinned (OpenSpec.ofChange superDecodesSpec)

/-- ITS FALSE NEIGHBOUR: 'it returns false'. Refute it at one input. -/
def superDecodesWrong : ChangeSpec := { name := "superDecodes", fn := fun _ => fun
  | [d] => { results := [.lit (.bool false)], args := [d] }
  | _ => none }
def SuperDecodesWrongFalsely : Prop := superDecodesRow.holds Try.pinned (OpenSpec.ofChange superDecodesWrong)

/-- 'erewhilelaw08.DeviceTears': WHATEVER THE INPUT: true; the input reads as it did. -/
def deviceTearsSpec : ChangeSpec := { name := "deviceTears", fn := fun _ => fun
  | [d1, d2, d3, d4] => { results := [.lit (.bool true)], args := [d1, d2, d3, d4] }
  | _ => none }
def deviceTearsRow : OpenClaim := { program := "ytjiojffakejgjaa", sum := "4d03227bd9fb6ce86c95379430501201cbd9ff1ca80ff9e7f12b9e4fe1661eef", func := "erewhile/erewhilelaw08.DeviceTears", spec := "deviceTears", unfollowed := true, recurses := true, apart := false }
def DeviceTearsSaid : Prop := deviceTearsRow.holds Try.pinned (OpenSpec.ofChange deviceTearsSpec)

/-- ITS FALSE NEIGHBOUR: 'it returns false'. Refute it at one input. -/
def deviceTearsWrong : ChangeSpec := { name := "deviceTears", fn := fun _ => fun
  | [d1, d2, d3, d4] => { results := [.lit (.bool false)], args := [d1, d2, d3, d4] }
  | _ => none }
def DeviceTearsWrongFalsely : Prop := deviceTearsRow.holds Try.pinned (OpenSpec.ofChange deviceTearsWrong)

/-- 'erewhilelaw08.DeviceRots': WHATEVER THE INPUT: true; the input reads as it did. -/
def deviceRotsSpec : ChangeSpec := { name := "deviceRots", fn := fun _ => fun
  | [d1, d2, d3, d4] => { results := [.lit (.bool true)], args := [d1, d2, d3, d4] }
  | _ => none }
def deviceRotsRow : OpenClaim := { program := "ytjiojffakejgjaa", sum := "4d03227bd9fb6ce86c95379430501201cbd9ff1ca80ff9e7f12b9e4fe1661eef", func := "erewhile/erewhilelaw08.DeviceRots", spec := "deviceRots", unfollowed := true, recurses := true, apart := false }
def DeviceRotsSaid : Prop := deviceRotsRow.holds Try.pinned (OpenSpec.ofChange deviceRotsSpec)

/-- ITS FALSE NEIGHBOUR: 'it returns false'. Refute it at one input. -/
def deviceRotsWrong : ChangeSpec := { name := "deviceRots", fn := fun _ => fun
  | [d1, d2, d3, d4] => { results := [.lit (.bool false)], args := [d1, d2, d3, d4] }
  | _ => none }
def DeviceRotsWrongFalsely : Prop := deviceRotsRow.holds Try.pinned (OpenSpec.ofChange deviceRotsWrong)

/-- 'erewhilelaw08.DeviceReads': WHATEVER THE INPUT: true; the input reads as it did. -/
def deviceReadsSpec : ChangeSpec := { name := "deviceReads", fn := fun _ => fun
  | [d1, d2, d3] => { results := [.lit (.bool true)], args := [d1, d2, d3] }
  | _ => none }
def deviceReadsRow : OpenClaim := { program := "ytjiojffakejgjaa", sum := "4d03227bd9fb6ce86c95379430501201cbd9ff1ca80ff9e7f12b9e4fe1661eef", func := "erewhile/erewhilelaw08.DeviceReads", spec := "deviceReads", unfollowed := true, recurses := true, apart := false }
def DeviceReadsSaid : Prop := deviceReadsRow.holds Try.pinned (OpenSpec.ofChange deviceReadsSpec)

/-- ITS FALSE NEIGHBOUR: 'it returns false'. Refute it at one input. -/
def deviceReadsWrong : ChangeSpec := { name := "deviceReads", fn := fun _ => fun
  | [d1, d2, d3] => { results := [.lit (.bool false)], args := [d1, d2, d3] }
  | _ => none }
def DeviceReadsWrongFalsely : Prop := deviceReadsRow.holds Try.pinned (OpenSpec.ofChange deviceReadsWrong)

/-- 'erewhilelaw08.DevicePower': WHATEVER THE INPUT: true; the input reads as it did. -/
def devicePowerSpec : ChangeSpec := { name := "devicePower", fn := fun _ => fun
  | [d1, d2] => { results := [.lit (.bool true)], args := [d1, d2] }
  | _ => none }
def devicePowerRow : OpenClaim := { program := "ytjiojffakejgjaa", sum := "4d03227bd9fb6ce86c95379430501201cbd9ff1ca80ff9e7f12b9e4fe1661eef", func := "erewhile/erewhilelaw08.DevicePower", spec := "devicePower", unfollowed := true, recurses := true, apart := false }
def DevicePowerSaid : Prop := devicePowerRow.holds Try.pinned (OpenSpec.ofChange devicePowerSpec)

/-- ITS FALSE NEIGHBOUR: 'it returns false'. Refute it at one input. -/
def devicePowerWrong : ChangeSpec := { name := "devicePower", fn := fun _ => fun
  | [d1, d2] => { results := [.lit (.bool false)], args := [d1, d2] }
  | _ => none }
def DevicePowerWrongFalsely : Prop := devicePowerRow.holds Try.pinned (OpenSpec.ofChange devicePowerWrong)

/-- 'erewhilelaw08.DeviceLies': WHATEVER THE INPUT: true; the input reads as it did. -/
def deviceLiesSpec : ChangeSpec := { name := "deviceLies", fn := fun _ => fun
  | [d] => { results := [.lit (.bool true)], args := [d] }
  | _ => none }
def deviceLiesRow : OpenClaim := { program := "ytjiojffakejgjaa", sum := "4d03227bd9fb6ce86c95379430501201cbd9ff1ca80ff9e7f12b9e4fe1661eef", func := "erewhile/erewhilelaw08.DeviceLies", spec := "deviceLies", unfollowed := true, recurses := true, apart := false }
def DeviceLiesSaid : Prop := deviceLiesRow.holds Try.pinned (OpenSpec.ofChange deviceLiesSpec)

/-- ITS FALSE NEIGHBOUR: 'it returns false'. Refute it at one input. -/
def deviceLiesWrong : ChangeSpec := { name := "deviceLies", fn := fun _ => fun
  | [d] => { results := [.lit (.bool false)], args := [d] }
  | _ => none }
def DeviceLiesWrongFalsely : Prop := deviceLiesRow.holds Try.pinned (OpenSpec.ofChange deviceLiesWrong)

/-- 'erewhilelaw08.DeviceFlushes': WHATEVER THE INPUT: true; the input reads as it did. -/
def deviceFlushesSpec : ChangeSpec := { name := "deviceFlushes", fn := fun _ => fun
  | [d1, d2, d3, d4] => { results := [.lit (.bool true)], args := [d1, d2, d3, d4] }
  | _ => none }
def deviceFlushesRow : OpenClaim := { program := "ytjiojffakejgjaa", sum := "4d03227bd9fb6ce86c95379430501201cbd9ff1ca80ff9e7f12b9e4fe1661eef", func := "erewhile/erewhilelaw08.DeviceFlushes", spec := "deviceFlushes", unfollowed := true, recurses := true, apart := false }
def DeviceFlushesSaid : Prop := deviceFlushesRow.holds Try.pinned (OpenSpec.ofChange deviceFlushesSpec)

/-- ITS FALSE NEIGHBOUR: 'it returns false'. Refute it at one input. -/
def deviceFlushesWrong : ChangeSpec := { name := "deviceFlushes", fn := fun _ => fun
  | [d1, d2, d3, d4] => { results := [.lit (.bool false)], args := [d1, d2, d3, d4] }
  | _ => none }
def DeviceFlushesWrongFalsely : Prop := deviceFlushesRow.holds Try.pinned (OpenSpec.ofChange deviceFlushesWrong)

/-- 'erewhilelaw08.DeviceOut': WHATEVER THE INPUT: true; the input reads as it did. -/
def deviceOutSpec : ChangeSpec := { name := "deviceOut", fn := fun _ => fun
  | [d1, d2, d3] => { results := [.lit (.bool true)], args := [d1, d2, d3] }
  | _ => none }
def deviceOutRow : OpenClaim := { program := "ytjiojffakejgjaa", sum := "4d03227bd9fb6ce86c95379430501201cbd9ff1ca80ff9e7f12b9e4fe1661eef", func := "erewhile/erewhilelaw08.DeviceOut", spec := "deviceOut", unfollowed := true, recurses := true, apart := false }
def DeviceOutSaid : Prop := deviceOutRow.holds Try.pinned (OpenSpec.ofChange deviceOutSpec)

/-- ITS FALSE NEIGHBOUR: 'it returns false'. Refute it at one input. -/
def deviceOutWrong : ChangeSpec := { name := "deviceOut", fn := fun _ => fun
  | [d1, d2, d3] => { results := [.lit (.bool false)], args := [d1, d2, d3] }
  | _ => none }
def DeviceOutWrongFalsely : Prop := deviceOutRow.holds Try.pinned (OpenSpec.ofChange deviceOutWrong)

/-- 'erewhilelaw08.DevicePlays': WHATEVER THE INPUT: true; the input reads as it did. -/
def devicePlaysSpec : ChangeSpec := { name := "devicePlays", fn := fun _ => fun
  | [d1, d2, d3] => { results := [.lit (.bool true)], args := [d1, d2, d3] }
  | _ => none }
def devicePlaysRow : OpenClaim := { program := "ytjiojffakejgjaa", sum := "4d03227bd9fb6ce86c95379430501201cbd9ff1ca80ff9e7f12b9e4fe1661eef", func := "erewhile/erewhilelaw08.DevicePlays", spec := "devicePlays", unfollowed := true, recurses := true, apart := false }
def DevicePlaysSaid : Prop := devicePlaysRow.holds Try.pinned (OpenSpec.ofChange devicePlaysSpec)

/-- ITS FALSE NEIGHBOUR: 'it returns false'. Refute it at one input. -/
def devicePlaysWrong : ChangeSpec := { name := "devicePlays", fn := fun _ => fun
  | [d1, d2, d3] => { results := [.lit (.bool false)], args := [d1, d2, d3] }
  | _ => none }
def DevicePlaysWrongFalsely : Prop := devicePlaysRow.holds Try.pinned (OpenSpec.ofChange devicePlaysWrong)

/-- 'erewhilelaw08.DeviceApart': WHATEVER THE INPUT: true; the input reads as it did. -/
def deviceApartSpec : ChangeSpec := { name := "deviceApart", fn := fun _ => fun
  | [d1, d2] => { results := [.lit (.bool true)], args := [d1, d2] }
  | _ => none }
def deviceApartRow : OpenClaim := { program := "ytjiojffakejgjaa", sum := "4d03227bd9fb6ce86c95379430501201cbd9ff1ca80ff9e7f12b9e4fe1661eef", func := "erewhile/erewhilelaw08.DeviceApart", spec := "deviceApart", unfollowed := true, recurses := true, apart := false }
def DeviceApartSaid : Prop := deviceApartRow.holds Try.pinned (OpenSpec.ofChange deviceApartSpec)

/-- ITS FALSE NEIGHBOUR: 'it returns false'. Refute it at one input. -/
def deviceApartWrong : ChangeSpec := { name := "deviceApart", fn := fun _ => fun
  | [d1, d2] => { results := [.lit (.bool false)], args := [d1, d2] }
  | _ => none }
def DeviceApartWrongFalsely : Prop := deviceApartRow.holds Try.pinned (OpenSpec.ofChange deviceApartWrong)

/- THE SECOND FORM. 'bulk': how many values and letters a reading holds, each counted each time it is reached (what is shared counts as often as it is met; a slice's spare places count too). A statement '..UptoSaid' is the law's where the arguments, and the package variables that the reading takes, are together of bulk at most 1048576: NARROWER than '..Said'. Prove '..Said' where nothing that the law and all that it calls make is longer than what came in: it says more and counts as full. Else prove '..UptoSaid'. A law counts once. -/
mutual
def uptoBulk {H : Type} : DataW H → Nat
  | .lit (.string bytes) => bytes.length + 1
  | .lit _ => 1
  | .nil => 1
  | .ptr d => uptoBulk d + 1
  | .slice elems spare => uptoBulkAll elems + uptoBulkAll spare + 1
  | .agg parts => uptoBulkAll parts + 1
  | .iface _ d => uptoBulk d + 1
  | .map entries => uptoBulkEntries entries + 1
  | .held _ => 1
def uptoBulkAll {H : Type} : List (DataW H) → Nat
  | [] => 0
  | d :: r => uptoBulk d + uptoBulkAll r
def uptoBulkEntries {H : Type} : List (Lit × DataW H) → Nat
  | [] => 0
  | x :: r => uptoBulkEntry x + uptoBulkEntries r
def uptoBulkEntry {H : Type} : Lit × DataW H → Nat
  | (.string bytes, d) => bytes.length + uptoBulk d + 1
  | (_, d) => uptoBulk d + 1
 end
def uptoSmall : (H : Type) → List (DataW H) → Bool := fun _ ds => decide (uptoBulkAll ds ≤ 1048576)
def OpenSpec.upto (s : _root_.Go.ChangeSpec) : _root_.Go.OpenSpec := { _root_.Go.OpenSpec.ofChange s with cond := some uptoSmall }

/-- 'erewhilelaw16.SuperCodes', WHERE WHAT IT READS IS OF BULK AT MOST 1048576: true; the input reads as it did. -/
def superCodesUptoRow : OpenClaim := { program := "ytjiojffakejgjaa", sum := "4d03227bd9fb6ce86c95379430501201cbd9ff1ca80ff9e7f12b9e4fe1661eef", func := "erewhile/erewhilelaw16.SuperCodes", spec := "superCodes", apart := false, narrowed := true }
def SuperCodesUptoSaid : Prop := superCodesUptoRow.holds Try.pinned (OpenSpec.upto superCodesSpec)

/-- 'erewhilelaw16.SuperDecodes', WHERE WHAT IT READS IS OF BULK AT MOST 1048576: true; the input reads as it did. -/
def superDecodesUptoRow : OpenClaim := { program := "ytjiojffakejgjaa", sum := "4d03227bd9fb6ce86c95379430501201cbd9ff1ca80ff9e7f12b9e4fe1661eef", func := "erewhile/erewhilelaw16.SuperDecodes", spec := "superDecodes", apart := false, narrowed := true }
def SuperDecodesUptoSaid : Prop := superDecodesUptoRow.holds Try.pinned (OpenSpec.upto superDecodesSpec)

/-- 'erewhilelaw08.DeviceTears', WHERE WHAT IT READS IS OF BULK AT MOST 1048576: true; the input reads as it did. -/
def deviceTearsUptoRow : OpenClaim := { program := "ytjiojffakejgjaa", sum := "4d03227bd9fb6ce86c95379430501201cbd9ff1ca80ff9e7f12b9e4fe1661eef", func := "erewhile/erewhilelaw08.DeviceTears", spec := "deviceTears", unfollowed := true, recurses := true, apart := false, narrowed := true }
def DeviceTearsUptoSaid : Prop := deviceTearsUptoRow.holds Try.pinned (OpenSpec.upto deviceTearsSpec)

/-- 'erewhilelaw08.DeviceRots', WHERE WHAT IT READS IS OF BULK AT MOST 1048576: true; the input reads as it did. -/
def deviceRotsUptoRow : OpenClaim := { program := "ytjiojffakejgjaa", sum := "4d03227bd9fb6ce86c95379430501201cbd9ff1ca80ff9e7f12b9e4fe1661eef", func := "erewhile/erewhilelaw08.DeviceRots", spec := "deviceRots", unfollowed := true, recurses := true, apart := false, narrowed := true }
def DeviceRotsUptoSaid : Prop := deviceRotsUptoRow.holds Try.pinned (OpenSpec.upto deviceRotsSpec)

/-- 'erewhilelaw08.DeviceReads', WHERE WHAT IT READS IS OF BULK AT MOST 1048576: true; the input reads as it did. -/
def deviceReadsUptoRow : OpenClaim := { program := "ytjiojffakejgjaa", sum := "4d03227bd9fb6ce86c95379430501201cbd9ff1ca80ff9e7f12b9e4fe1661eef", func := "erewhile/erewhilelaw08.DeviceReads", spec := "deviceReads", unfollowed := true, recurses := true, apart := false, narrowed := true }
def DeviceReadsUptoSaid : Prop := deviceReadsUptoRow.holds Try.pinned (OpenSpec.upto deviceReadsSpec)

/-- 'erewhilelaw08.DevicePower', WHERE WHAT IT READS IS OF BULK AT MOST 1048576: true; the input reads as it did. -/
def devicePowerUptoRow : OpenClaim := { program := "ytjiojffakejgjaa", sum := "4d03227bd9fb6ce86c95379430501201cbd9ff1ca80ff9e7f12b9e4fe1661eef", func := "erewhile/erewhilelaw08.DevicePower", spec := "devicePower", unfollowed := true, recurses := true, apart := false, narrowed := true }
def DevicePowerUptoSaid : Prop := devicePowerUptoRow.holds Try.pinned (OpenSpec.upto devicePowerSpec)

/-- 'erewhilelaw08.DeviceLies', WHERE WHAT IT READS IS OF BULK AT MOST 1048576: true; the input reads as it did. -/
def deviceLiesUptoRow : OpenClaim := { program := "ytjiojffakejgjaa", sum := "4d03227bd9fb6ce86c95379430501201cbd9ff1ca80ff9e7f12b9e4fe1661eef", func := "erewhile/erewhilelaw08.DeviceLies", spec := "deviceLies", unfollowed := true, recurses := true, apart := false, narrowed := true }
def DeviceLiesUptoSaid : Prop := deviceLiesUptoRow.holds Try.pinned (OpenSpec.upto deviceLiesSpec)

/-- 'erewhilelaw08.DeviceFlushes', WHERE WHAT IT READS IS OF BULK AT MOST 1048576: true; the input reads as it did. -/
def deviceFlushesUptoRow : OpenClaim := { program := "ytjiojffakejgjaa", sum := "4d03227bd9fb6ce86c95379430501201cbd9ff1ca80ff9e7f12b9e4fe1661eef", func := "erewhile/erewhilelaw08.DeviceFlushes", spec := "deviceFlushes", unfollowed := true, recurses := true, apart := false, narrowed := true }
def DeviceFlushesUptoSaid : Prop := deviceFlushesUptoRow.holds Try.pinned (OpenSpec.upto deviceFlushesSpec)

/-- 'erewhilelaw08.DeviceOut', WHERE WHAT IT READS IS OF BULK AT MOST 1048576: true; the input reads as it did. -/
def deviceOutUptoRow : OpenClaim := { program := "ytjiojffakejgjaa", sum := "4d03227bd9fb6ce86c95379430501201cbd9ff1ca80ff9e7f12b9e4fe1661eef", func := "erewhile/erewhilelaw08.DeviceOut", spec := "deviceOut", unfollowed := true, recurses := true, apart := false, narrowed := true }
def DeviceOutUptoSaid : Prop := deviceOutUptoRow.holds Try.pinned (OpenSpec.upto deviceOutSpec)

/-- 'erewhilelaw08.DevicePlays', WHERE WHAT IT READS IS OF BULK AT MOST 1048576: true; the input reads as it did. -/
def devicePlaysUptoRow : OpenClaim := { program := "ytjiojffakejgjaa", sum := "4d03227bd9fb6ce86c95379430501201cbd9ff1ca80ff9e7f12b9e4fe1661eef", func := "erewhile/erewhilelaw08.DevicePlays", spec := "devicePlays", unfollowed := true, recurses := true, apart := false, narrowed := true }
def DevicePlaysUptoSaid : Prop := devicePlaysUptoRow.holds Try.pinned (OpenSpec.upto devicePlaysSpec)

/-- 'erewhilelaw08.DeviceApart', WHERE WHAT IT READS IS OF BULK AT MOST 1048576: true; the input reads as it did. -/
def deviceApartUptoRow : OpenClaim := { program := "ytjiojffakejgjaa", sum := "4d03227bd9fb6ce86c95379430501201cbd9ff1ca80ff9e7f12b9e4fe1661eef", func := "erewhile/erewhilelaw08.DeviceApart", spec := "deviceApart", unfollowed := true, recurses := true, apart := false, narrowed := true }
def DeviceApartUptoSaid : Prop := deviceApartUptoRow.holds Try.pinned (OpenSpec.upto deviceApartSpec)

end Rows
end Go.Proofs.Ytjiojffakejgjaa
