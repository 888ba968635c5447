/-
  No cell of these rows narrows 'for every input' (looked for: loops, veiled, ifaces, maps, wideKeys, modest, calm, conditions, laid).
  DERIVED. THE GIVEN ROWS OF THIS SEAT. 12 by the template 'for every input the law returns true; each argument reads behind the call as it read before'; 0 by the template 'total and deterministic' (their statements: YtaeooiogjhkjfaaTotals.lean).
  GIVEN WITH THE SEED: the statements are not yours to turn. If you find one false, say at which input.
  Laid BY PROGRAM, IN A SANDBOX (cutbox-rows.mjs): the forced cells as the released guide's own fill.sh prints them over the translation c91baa1ff4cb9cca… (all of the seat's roots in one cut). By AI agents, Wed Nov 11 2026. No macro, syntax, notation, axiom, sorry.
-/
import Derived.Test.YtaeooiogjhkjfaaChecked
import GoSem.Claim
import GoSem.ClaimJoined
import GoSem.ClaimMapViews
import Derived.JoinedTies
import Derived.KernelRfl
namespace Go.Proofs.Ytaeooiogjhkjfaa
/- THE CELL 'sum', in the pinned program and in every row, IS THE sha256 OF THE DUMP (.gsa) THAT YtaeooiogjhkjfaaProg.lean LOADS. Nothing in Lean hashes anything: it is a label: what it is worth is what the hold of that sum in a sandbox is worth. -/
noncomputable def Try.pinned : Pinned := { name := "ytaeooiogjhkjfaa", sum := "c91baa1ff4cb9cca707daade2d57d33ae58df44dae495f1830fbc0473ace604a", checked := Try.checked }
namespace Rows
def none {H : Type} : Left H := { results := [], args := [] }

/-- 'erewhilelaw08.DevicePlays': WHATEVER THE INPUT: true; the input reads as it did. -/
def devicePlaysSpec : ChangeSpec := { name := "devicePlays", fn := fun _ => fun
  | [d1, d2, d3] => { results := [.lit (.bool true)], args := [d1, d2, d3] }
  | _ => none }
def devicePlaysRow : OpenClaim := { program := "ytaeooiogjhkjfaa", sum := "c91baa1ff4cb9cca707daade2d57d33ae58df44dae495f1830fbc0473ace604a", func := "erewhile/erewhilelaw08.DevicePlays", spec := "devicePlays", unfollowed := true, recurses := true, apart := false }
def DevicePlaysSaid : Prop := devicePlaysRow.holds Try.pinned (OpenSpec.ofChange devicePlaysSpec)

/-- ITS FALSE NEIGHBOUR: 'it returns false'. Refute it at one input. -/
def devicePlaysWrong : ChangeSpec := { name := "devicePlays", fn := fun _ => fun
  | [d1, d2, d3] => { results := [.lit (.bool false)], args := [d1, d2, d3] }
  | _ => none }
def DevicePlaysWrongFalsely : Prop := devicePlaysRow.holds Try.pinned (OpenSpec.ofChange devicePlaysWrong)

/-- 'erewhilelaw18.ExtentOrder': WHATEVER THE INPUT: true; the input reads as it did. -/
def extentOrderSpec : ChangeSpec := { name := "extentOrder", fn := fun _ => fun
  | [d1, d2, d3] => { results := [.lit (.bool true)], args := [d1, d2, d3] }
  | _ => none }
def extentOrderRow : OpenClaim := { program := "ytaeooiogjhkjfaa", sum := "c91baa1ff4cb9cca707daade2d57d33ae58df44dae495f1830fbc0473ace604a", func := "erewhile/erewhilelaw18.ExtentOrder", spec := "extentOrder", unfollowed := true, recurses := true, apart := false }
def ExtentOrderSaid : Prop := extentOrderRow.holds Try.pinned (OpenSpec.ofChange extentOrderSpec)

/-- ITS FALSE NEIGHBOUR: 'it returns false'. Refute it at one input. -/
def extentOrderWrong : ChangeSpec := { name := "extentOrder", fn := fun _ => fun
  | [d1, d2, d3] => { results := [.lit (.bool false)], args := [d1, d2, d3] }
  | _ => none }
def ExtentOrderWrongFalsely : Prop := extentOrderRow.holds Try.pinned (OpenSpec.ofChange extentOrderWrong)

/-- 'erewhilelaw18.ExtentLeast': WHATEVER THE INPUT: true; the input reads as it did. -/
def extentLeastSpec : ChangeSpec := { name := "extentLeast", fn := fun _ => fun
  | [d1, d2, d3] => { results := [.lit (.bool true)], args := [d1, d2, d3] }
  | _ => none }
def extentLeastRow : OpenClaim := { program := "ytaeooiogjhkjfaa", sum := "c91baa1ff4cb9cca707daade2d57d33ae58df44dae495f1830fbc0473ace604a", func := "erewhile/erewhilelaw18.ExtentLeast", spec := "extentLeast", unfollowed := true, recurses := true, apart := false }
def ExtentLeastSaid : Prop := extentLeastRow.holds Try.pinned (OpenSpec.ofChange extentLeastSpec)

/-- ITS FALSE NEIGHBOUR: 'it returns false'. Refute it at one input. -/
def extentLeastWrong : ChangeSpec := { name := "extentLeast", fn := fun _ => fun
  | [d1, d2, d3] => { results := [.lit (.bool false)], args := [d1, d2, d3] }
  | _ => none }
def ExtentLeastWrongFalsely : Prop := extentLeastRow.holds Try.pinned (OpenSpec.ofChange extentLeastWrong)

/-- 'erewhilelaw18.ExtentTwo': WHATEVER THE INPUT: true; the input reads as it did. -/
def extentTwoSpec : ChangeSpec := { name := "extentTwo", fn := fun _ => fun
  | [d1, d2] => { results := [.lit (.bool true)], args := [d1, d2] }
  | _ => none }
def extentTwoRow : OpenClaim := { program := "ytaeooiogjhkjfaa", sum := "c91baa1ff4cb9cca707daade2d57d33ae58df44dae495f1830fbc0473ace604a", func := "erewhile/erewhilelaw18.ExtentTwo", spec := "extentTwo", unfollowed := true, recurses := true, apart := false }
def ExtentTwoSaid : Prop := extentTwoRow.holds Try.pinned (OpenSpec.ofChange extentTwoSpec)

/-- ITS FALSE NEIGHBOUR: 'it returns false'. Refute it at one input. -/
def extentTwoWrong : ChangeSpec := { name := "extentTwo", fn := fun _ => fun
  | [d1, d2] => { results := [.lit (.bool false)], args := [d1, d2] }
  | _ => none }
def ExtentTwoWrongFalsely : Prop := extentTwoRow.holds Try.pinned (OpenSpec.ofChange extentTwoWrong)

/-- 'erewhilelaw18.ExtentPlays': WHATEVER THE INPUT: true; the input reads as it did. -/
def extentPlaysSpec : ChangeSpec := { name := "extentPlays", fn := fun _ => fun
  | [d1, d2] => { results := [.lit (.bool true)], args := [d1, d2] }
  | _ => none }
def extentPlaysRow : OpenClaim := { program := "ytaeooiogjhkjfaa", sum := "c91baa1ff4cb9cca707daade2d57d33ae58df44dae495f1830fbc0473ace604a", func := "erewhile/erewhilelaw18.ExtentPlays", spec := "extentPlays", unfollowed := true, recurses := true, apart := false }
def ExtentPlaysSaid : Prop := extentPlaysRow.holds Try.pinned (OpenSpec.ofChange extentPlaysSpec)

/-- ITS FALSE NEIGHBOUR: 'it returns false'. Refute it at one input. -/
def extentPlaysWrong : ChangeSpec := { name := "extentPlays", fn := fun _ => fun
  | [d1, d2] => { results := [.lit (.bool false)], args := [d1, d2] }
  | _ => none }
def ExtentPlaysWrongFalsely : Prop := extentPlaysRow.holds Try.pinned (OpenSpec.ofChange extentPlaysWrong)

/-- 'erewhilelaw18.ExtentCounts': WHATEVER THE INPUT: true; the input reads as it did. -/
def extentCountsSpec : ChangeSpec := { name := "extentCounts", fn := fun _ => fun
  | [d1, d2] => { results := [.lit (.bool true)], args := [d1, d2] }
  | _ => none }
def extentCountsRow : OpenClaim := { program := "ytaeooiogjhkjfaa", sum := "c91baa1ff4cb9cca707daade2d57d33ae58df44dae495f1830fbc0473ace604a", func := "erewhile/erewhilelaw18.ExtentCounts", spec := "extentCounts", unfollowed := true, recurses := true, apart := false }
def ExtentCountsSaid : Prop := extentCountsRow.holds Try.pinned (OpenSpec.ofChange extentCountsSpec)

/-- ITS FALSE NEIGHBOUR: 'it returns false'. Refute it at one input. -/
def extentCountsWrong : ChangeSpec := { name := "extentCounts", fn := fun _ => fun
  | [d1, d2] => { results := [.lit (.bool false)], args := [d1, d2] }
  | _ => none }
def ExtentCountsWrongFalsely : Prop := extentCountsRow.holds Try.pinned (OpenSpec.ofChange extentCountsWrong)

/-- 'erewhilelaw18.ExtentMoves': WHATEVER THE INPUT: true; the input reads as it did. -/
def extentMovesSpec : ChangeSpec := { name := "extentMoves", fn := fun _ => fun
  | [d1, d2, d3, d4] => { results := [.lit (.bool true)], args := [d1, d2, d3, d4] }
  | _ => none }
def extentMovesRow : OpenClaim := { program := "ytaeooiogjhkjfaa", sum := "c91baa1ff4cb9cca707daade2d57d33ae58df44dae495f1830fbc0473ace604a", func := "erewhile/erewhilelaw18.ExtentMoves", spec := "extentMoves", unfollowed := true, recurses := true, apart := false }
def ExtentMovesSaid : Prop := extentMovesRow.holds Try.pinned (OpenSpec.ofChange extentMovesSpec)

/-- ITS FALSE NEIGHBOUR: 'it returns false'. Refute it at one input. -/
def extentMovesWrong : ChangeSpec := { name := "extentMoves", fn := fun _ => fun
  | [d1, d2, d3, d4] => { results := [.lit (.bool false)], args := [d1, d2, d3, d4] }
  | _ => none }
def ExtentMovesWrongFalsely : Prop := extentMovesRow.holds Try.pinned (OpenSpec.ofChange extentMovesWrong)

/-- 'erewhilelaw42.CompactEnough': WHATEVER THE INPUT: true; the input reads as it did. -/
def compactEnoughSpec : ChangeSpec := { name := "compactEnough", fn := fun _ => fun
  | [d1, d2] => { results := [.lit (.bool true)], args := [d1, d2] }
  | _ => none }
def compactEnoughRow : OpenClaim := { program := "ytaeooiogjhkjfaa", sum := "c91baa1ff4cb9cca707daade2d57d33ae58df44dae495f1830fbc0473ace604a", func := "erewhile/erewhilelaw42.CompactEnough", spec := "compactEnough", unfollowed := true, recurses := true, apart := false }
def CompactEnoughSaid : Prop := compactEnoughRow.holds Try.pinned (OpenSpec.ofChange compactEnoughSpec)

/-- ITS FALSE NEIGHBOUR: 'it returns false'. Refute it at one input. -/
def compactEnoughWrong : ChangeSpec := { name := "compactEnough", fn := fun _ => fun
  | [d1, d2] => { results := [.lit (.bool false)], args := [d1, d2] }
  | _ => none }
def CompactEnoughWrongFalsely : Prop := compactEnoughRow.holds Try.pinned (OpenSpec.ofChange compactEnoughWrong)

/-- 'erewhilelaw42.CompactLedger': WHATEVER THE INPUT: true; the input reads as it did. -/
def compactLedgerSpec : ChangeSpec := { name := "compactLedger", fn := fun _ => fun
  | [d1, d2] => { results := [.lit (.bool true)], args := [d1, d2] }
  | _ => none }
def compactLedgerRow : OpenClaim := { program := "ytaeooiogjhkjfaa", sum := "c91baa1ff4cb9cca707daade2d57d33ae58df44dae495f1830fbc0473ace604a", func := "erewhile/erewhilelaw42.CompactLedger", spec := "compactLedger", unfollowed := true, recurses := true, apart := false }
def CompactLedgerSaid : Prop := compactLedgerRow.holds Try.pinned (OpenSpec.ofChange compactLedgerSpec)

/-- ITS FALSE NEIGHBOUR: 'it returns false'. Refute it at one input. -/
def compactLedgerWrong : ChangeSpec := { name := "compactLedger", fn := fun _ => fun
  | [d1, d2] => { results := [.lit (.bool false)], args := [d1, d2] }
  | _ => none }
def CompactLedgerWrongFalsely : Prop := compactLedgerRow.holds Try.pinned (OpenSpec.ofChange compactLedgerWrong)

/-- 'erewhilelaw42.CompactNone': WHATEVER THE INPUT: true; the input reads as it did. -/
def compactNoneSpec : ChangeSpec := { name := "compactNone", fn := fun _ => fun
  | [d1, d2, d3] => { results := [.lit (.bool true)], args := [d1, d2, d3] }
  | _ => none }
def compactNoneRow : OpenClaim := { program := "ytaeooiogjhkjfaa", sum := "c91baa1ff4cb9cca707daade2d57d33ae58df44dae495f1830fbc0473ace604a", func := "erewhile/erewhilelaw42.CompactNone", spec := "compactNone", unfollowed := true, recurses := true, apart := false }
def CompactNoneSaid : Prop := compactNoneRow.holds Try.pinned (OpenSpec.ofChange compactNoneSpec)

/-- ITS FALSE NEIGHBOUR: 'it returns false'. Refute it at one input. -/
def compactNoneWrong : ChangeSpec := { name := "compactNone", fn := fun _ => fun
  | [d1, d2, d3] => { results := [.lit (.bool false)], args := [d1, d2, d3] }
  | _ => none }
def CompactNoneWrongFalsely : Prop := compactNoneRow.holds Try.pinned (OpenSpec.ofChange compactNoneWrong)

/-- 'erewhilelaw42.CompactGains': WHATEVER THE INPUT: true; the input reads as it did. -/
def compactGainsSpec : ChangeSpec := { name := "compactGains", fn := fun _ => fun
  | [d1, d2, d3, d4] => { results := [.lit (.bool true)], args := [d1, d2, d3, d4] }
  | _ => none }
def compactGainsRow : OpenClaim := { program := "ytaeooiogjhkjfaa", sum := "c91baa1ff4cb9cca707daade2d57d33ae58df44dae495f1830fbc0473ace604a", func := "erewhile/erewhilelaw42.CompactGains", spec := "compactGains", unfollowed := true, recurses := true, apart := false }
def CompactGainsSaid : Prop := compactGainsRow.holds Try.pinned (OpenSpec.ofChange compactGainsSpec)

/-- ITS FALSE NEIGHBOUR: 'it returns false'. Refute it at one input. -/
def compactGainsWrong : ChangeSpec := { name := "compactGains", fn := fun _ => fun
  | [d1, d2, d3, d4] => { results := [.lit (.bool false)], args := [d1, d2, d3, d4] }
  | _ => none }
def CompactGainsWrongFalsely : Prop := compactGainsRow.holds Try.pinned (OpenSpec.ofChange compactGainsWrong)

/-- 'erewhilelaw42.CompactChooses': WHATEVER THE INPUT: true; the input reads as it did. -/
def compactChoosesSpec : ChangeSpec := { name := "compactChooses", fn := fun _ => fun
  | [d1, d2, d3, d4] => { results := [.lit (.bool true)], args := [d1, d2, d3, d4] }
  | _ => none }
def compactChoosesRow : OpenClaim := { program := "ytaeooiogjhkjfaa", sum := "c91baa1ff4cb9cca707daade2d57d33ae58df44dae495f1830fbc0473ace604a", func := "erewhile/erewhilelaw42.CompactChooses", spec := "compactChooses", unfollowed := true, recurses := true, apart := false }
def CompactChoosesSaid : Prop := compactChoosesRow.holds Try.pinned (OpenSpec.ofChange compactChoosesSpec)

/-- ITS FALSE NEIGHBOUR: 'it returns false'. Refute it at one input. -/
def compactChoosesWrong : ChangeSpec := { name := "compactChooses", fn := fun _ => fun
  | [d1, d2, d3, d4] => { results := [.lit (.bool false)], args := [d1, d2, d3, d4] }
  | _ => none }
def CompactChoosesWrongFalsely : Prop := compactChoosesRow.holds Try.pinned (OpenSpec.ofChange compactChoosesWrong)

/- THE SECOND FORM. 'bulk': how many values and letters a reading holds, each counted each time it is reached (what is shared counts as often as it is met; a slice's spare places count too). A statement '..UptoSaid' is the law's where the arguments, and the package variables that the reading takes, are together of bulk at most 1048576: NARROWER than '..Said'. Prove '..Said' where nothing that the law and all that it calls make is longer than what came in: it says more and counts as full. Else prove '..UptoSaid'. A law counts once. -/
mutual
def uptoBulk {H : Type} : DataW H → Nat
  | .lit (.string bytes) => bytes.length + 1
  | .lit _ => 1
  | .nil => 1
  | .ptr d => uptoBulk d + 1
  | .slice elems spare => uptoBulkAll elems + uptoBulkAll spare + 1
  | .agg parts => uptoBulkAll parts + 1
  | .iface _ d => uptoBulk d + 1
  | .map entries => uptoBulkEntries entries + 1
  | .held _ => 1
def uptoBulkAll {H : Type} : List (DataW H) → Nat
  | [] => 0
  | d :: r => uptoBulk d + uptoBulkAll r
def uptoBulkEntries {H : Type} : List (Lit × DataW H) → Nat
  | [] => 0
  | x :: r => uptoBulkEntry x + uptoBulkEntries r
def uptoBulkEntry {H : Type} : Lit × DataW H → Nat
  | (.string bytes, d) => bytes.length + uptoBulk d + 1
  | (_, d) => uptoBulk d + 1
 end
def uptoSmall : (H : Type) → List (DataW H) → Bool := fun _ ds => decide (uptoBulkAll ds ≤ 1048576)
def OpenSpec.upto (s : _root_.Go.ChangeSpec) : _root_.Go.OpenSpec := { _root_.Go.OpenSpec.ofChange s with cond := some uptoSmall }

/-- 'erewhilelaw08.DevicePlays', WHERE WHAT IT READS IS OF BULK AT MOST 1048576: true; the input reads as it did. -/
def devicePlaysUptoRow : OpenClaim := { program := "ytaeooiogjhkjfaa", sum := "c91baa1ff4cb9cca707daade2d57d33ae58df44dae495f1830fbc0473ace604a", func := "erewhile/erewhilelaw08.DevicePlays", spec := "devicePlays", unfollowed := true, recurses := true, apart := false, narrowed := true }
def DevicePlaysUptoSaid : Prop := devicePlaysUptoRow.holds Try.pinned (OpenSpec.upto devicePlaysSpec)

/-- 'erewhilelaw18.ExtentOrder', WHERE WHAT IT READS IS OF BULK AT MOST 1048576: true; the input reads as it did. -/
def extentOrderUptoRow : OpenClaim := { program := "ytaeooiogjhkjfaa", sum := "c91baa1ff4cb9cca707daade2d57d33ae58df44dae495f1830fbc0473ace604a", func := "erewhile/erewhilelaw18.ExtentOrder", spec := "extentOrder", unfollowed := true, recurses := true, apart := false, narrowed := true }
def ExtentOrderUptoSaid : Prop := extentOrderUptoRow.holds Try.pinned (OpenSpec.upto extentOrderSpec)

/-- 'erewhilelaw18.ExtentLeast', WHERE WHAT IT READS IS OF BULK AT MOST 1048576: true; the input reads as it did. -/
def extentLeastUptoRow : OpenClaim := { program := "ytaeooiogjhkjfaa", sum := "c91baa1ff4cb9cca707daade2d57d33ae58df44dae495f1830fbc0473ace604a", func := "erewhile/erewhilelaw18.ExtentLeast", spec := "extentLeast", unfollowed := true, recurses := true, apart := false, narrowed := true }
def ExtentLeastUptoSaid : Prop := extentLeastUptoRow.holds Try.pinned (OpenSpec.upto extentLeastSpec)

/-- 'erewhilelaw18.ExtentTwo', WHERE WHAT IT READS IS OF BULK AT MOST 1048576: true; the input reads as it did. -/
def extentTwoUptoRow : OpenClaim := { program := "ytaeooiogjhkjfaa", sum := "c91baa1ff4cb9cca707daade2d57d33ae58df44dae495f1830fbc0473ace604a", func := "erewhile/erewhilelaw18.ExtentTwo", spec := "extentTwo", unfollowed := true, recurses := true, apart := false, narrowed := true }
def ExtentTwoUptoSaid : Prop := extentTwoUptoRow.holds Try.pinned (OpenSpec.upto extentTwoSpec)

/-- 'erewhilelaw18.ExtentPlays', WHERE WHAT IT READS IS OF BULK AT MOST 1048576: true; the input reads as it did. -/
def extentPlaysUptoRow : OpenClaim := { program := "ytaeooiogjhkjfaa", sum := "c91baa1ff4cb9cca707daade2d57d33ae58df44dae495f1830fbc0473ace604a", func := "erewhile/erewhilelaw18.ExtentPlays", spec := "extentPlays", unfollowed := true, recurses := true, apart := false, narrowed := true }
def ExtentPlaysUptoSaid : Prop := extentPlaysUptoRow.holds Try.pinned (OpenSpec.upto extentPlaysSpec)

/-- 'erewhilelaw18.ExtentCounts', WHERE WHAT IT READS IS OF BULK AT MOST 1048576: true; the input reads as it did. -/
def extentCountsUptoRow : OpenClaim := { program := "ytaeooiogjhkjfaa", sum := "c91baa1ff4cb9cca707daade2d57d33ae58df44dae495f1830fbc0473ace604a", func := "erewhile/erewhilelaw18.ExtentCounts", spec := "extentCounts", unfollowed := true, recurses := true, apart := false, narrowed := true }
def ExtentCountsUptoSaid : Prop := extentCountsUptoRow.holds Try.pinned (OpenSpec.upto extentCountsSpec)

/-- 'erewhilelaw18.ExtentMoves', WHERE WHAT IT READS IS OF BULK AT MOST 1048576: true; the input reads as it did. -/
def extentMovesUptoRow : OpenClaim := { program := "ytaeooiogjhkjfaa", sum := "c91baa1ff4cb9cca707daade2d57d33ae58df44dae495f1830fbc0473ace604a", func := "erewhile/erewhilelaw18.ExtentMoves", spec := "extentMoves", unfollowed := true, recurses := true, apart := false, narrowed := true }
def ExtentMovesUptoSaid : Prop := extentMovesUptoRow.holds Try.pinned (OpenSpec.upto extentMovesSpec)

/-- 'erewhilelaw42.CompactEnough', WHERE WHAT IT READS IS OF BULK AT MOST 1048576: true; the input reads as it did. -/
def compactEnoughUptoRow : OpenClaim := { program := "ytaeooiogjhkjfaa", sum := "c91baa1ff4cb9cca707daade2d57d33ae58df44dae495f1830fbc0473ace604a", func := "erewhile/erewhilelaw42.CompactEnough", spec := "compactEnough", unfollowed := true, recurses := true, apart := false, narrowed := true }
def CompactEnoughUptoSaid : Prop := compactEnoughUptoRow.holds Try.pinned (OpenSpec.upto compactEnoughSpec)

/-- 'erewhilelaw42.CompactLedger', WHERE WHAT IT READS IS OF BULK AT MOST 1048576: true; the input reads as it did. -/
def compactLedgerUptoRow : OpenClaim := { program := "ytaeooiogjhkjfaa", sum := "c91baa1ff4cb9cca707daade2d57d33ae58df44dae495f1830fbc0473ace604a", func := "erewhile/erewhilelaw42.CompactLedger", spec := "compactLedger", unfollowed := true, recurses := true, apart := false, narrowed := true }
def CompactLedgerUptoSaid : Prop := compactLedgerUptoRow.holds Try.pinned (OpenSpec.upto compactLedgerSpec)

/-- 'erewhilelaw42.CompactNone', WHERE WHAT IT READS IS OF BULK AT MOST 1048576: true; the input reads as it did. -/
def compactNoneUptoRow : OpenClaim := { program := "ytaeooiogjhkjfaa", sum := "c91baa1ff4cb9cca707daade2d57d33ae58df44dae495f1830fbc0473ace604a", func := "erewhile/erewhilelaw42.CompactNone", spec := "compactNone", unfollowed := true, recurses := true, apart := false, narrowed := true }
def CompactNoneUptoSaid : Prop := compactNoneUptoRow.holds Try.pinned (OpenSpec.upto compactNoneSpec)

/-- 'erewhilelaw42.CompactGains', WHERE WHAT IT READS IS OF BULK AT MOST 1048576: true; the input reads as it did. -/
def compactGainsUptoRow : OpenClaim := { program := "ytaeooiogjhkjfaa", sum := "c91baa1ff4cb9cca707daade2d57d33ae58df44dae495f1830fbc0473ace604a", func := "erewhile/erewhilelaw42.CompactGains", spec := "compactGains", unfollowed := true, recurses := true, apart := false, narrowed := true }
def CompactGainsUptoSaid : Prop := compactGainsUptoRow.holds Try.pinned (OpenSpec.upto compactGainsSpec)

/-- 'erewhilelaw42.CompactChooses', WHERE WHAT IT READS IS OF BULK AT MOST 1048576: true; the input reads as it did. -/
def compactChoosesUptoRow : OpenClaim := { program := "ytaeooiogjhkjfaa", sum := "c91baa1ff4cb9cca707daade2d57d33ae58df44dae495f1830fbc0473ace604a", func := "erewhile/erewhilelaw42.CompactChooses", spec := "compactChooses", unfollowed := true, recurses := true, apart := false, narrowed := true }
def CompactChoosesUptoSaid : Prop := compactChoosesUptoRow.holds Try.pinned (OpenSpec.upto compactChoosesSpec)

end Rows
end Go.Proofs.Ytaeooiogjhkjfaa
