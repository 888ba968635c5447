/-
  No cell of these rows narrows 'for every input' (looked for: loops, veiled, ifaces, maps, wideKeys, modest, calm, conditions, laid).
  DERIVED. THE GIVEN ROWS OF THIS SEAT. 5 by the template 'for every input the law returns true; each argument reads behind the call as it read before'; 0 by the template 'total and deterministic' (their statements: YtighbhplfjjgpaaTotals.lean).
  GIVEN WITH THE SEED: the statements are not yours to turn. If you find one false, say at which input.
  Laid BY PROGRAM, IN A SANDBOX (cutbox-rows.mjs): the forced cells as the released guide's own fill.sh prints them over the translation 73752a2a45c6cbcd… (all of the seat's roots in one cut). By AI agents, Wed Nov 11 2026. No macro, syntax, notation, axiom, sorry.
-/
import Derived.Test.YtighbhplfjjgpaaChecked
import GoSem.Claim
import GoSem.ClaimJoined
import GoSem.ClaimMapViews
import Derived.JoinedTies
import Derived.KernelRfl
namespace Go.Proofs.Ytighbhplfjjgpaa
/- THE CELL 'sum', in the pinned program and in every row, IS THE sha256 OF THE DUMP (.gsa) THAT YtighbhplfjjgpaaProg.lean LOADS. Nothing in Lean hashes anything: it is a label: what it is worth is what the hold of that sum in a sandbox is worth. -/
noncomputable def Try.pinned : Pinned := { name := "ytighbhplfjjgpaa", sum := "73752a2a45c6cbcd0d8cbdbe70721a637a58e10431a717c962e6b94a8450e163", checked := Try.checked }
namespace Rows
def none {H : Type} : Left H := { results := [], args := [] }

/-- 'erewhilelaw42.CompactHead': WHATEVER THE INPUT: true; the input reads as it did. -/
def compactHeadSpec : ChangeSpec := { name := "compactHead", fn := fun _ => fun
  | [d1, d2, d3, d4] => { results := [.lit (.bool true)], args := [d1, d2, d3, d4] }
  | _ => none }
def compactHeadRow : OpenClaim := { program := "ytighbhplfjjgpaa", sum := "73752a2a45c6cbcd0d8cbdbe70721a637a58e10431a717c962e6b94a8450e163", func := "erewhile/erewhilelaw42.CompactHead", spec := "compactHead", unfollowed := true, recurses := true, apart := false }
def CompactHeadSaid : Prop := compactHeadRow.holds Try.pinned (OpenSpec.ofChange compactHeadSpec)

/-- ITS FALSE NEIGHBOUR: 'it returns false'. Refute it at one input. -/
def compactHeadWrong : ChangeSpec := { name := "compactHead", fn := fun _ => fun
  | [d1, d2, d3, d4] => { results := [.lit (.bool false)], args := [d1, d2, d3, d4] }
  | _ => none }
def CompactHeadWrongFalsely : Prop := compactHeadRow.holds Try.pinned (OpenSpec.ofChange compactHeadWrong)

/-- 'erewhilelaw42.CompactAlways': WHATEVER THE INPUT: true; the input reads as it did. -/
def compactAlwaysSpec : ChangeSpec := { name := "compactAlways", fn := fun _ => fun
  | [d1, d2, d3] => { results := [.lit (.bool true)], args := [d1, d2, d3] }
  | _ => none }
def compactAlwaysRow : OpenClaim := { program := "ytighbhplfjjgpaa", sum := "73752a2a45c6cbcd0d8cbdbe70721a637a58e10431a717c962e6b94a8450e163", func := "erewhile/erewhilelaw42.CompactAlways", spec := "compactAlways", unfollowed := true, recurses := true, apart := false }
def CompactAlwaysSaid : Prop := compactAlwaysRow.holds Try.pinned (OpenSpec.ofChange compactAlwaysSpec)

/-- ITS FALSE NEIGHBOUR: 'it returns false'. Refute it at one input. -/
def compactAlwaysWrong : ChangeSpec := { name := "compactAlways", fn := fun _ => fun
  | [d1, d2, d3] => { results := [.lit (.bool false)], args := [d1, d2, d3] }
  | _ => none }
def CompactAlwaysWrongFalsely : Prop := compactAlwaysRow.holds Try.pinned (OpenSpec.ofChange compactAlwaysWrong)

/-- 'erewhilelaw42.CompactEmpties': WHATEVER THE INPUT: true; the input reads as it did. -/
def compactEmptiesSpec : ChangeSpec := { name := "compactEmpties", fn := fun _ => fun
  | [d1, d2, d3, d4] => { results := [.lit (.bool true)], args := [d1, d2, d3, d4] }
  | _ => none }
def compactEmptiesRow : OpenClaim := { program := "ytighbhplfjjgpaa", sum := "73752a2a45c6cbcd0d8cbdbe70721a637a58e10431a717c962e6b94a8450e163", func := "erewhile/erewhilelaw42.CompactEmpties", spec := "compactEmpties", unfollowed := true, recurses := true, apart := false }
def CompactEmptiesSaid : Prop := compactEmptiesRow.holds Try.pinned (OpenSpec.ofChange compactEmptiesSpec)

/-- ITS FALSE NEIGHBOUR: 'it returns false'. Refute it at one input. -/
def compactEmptiesWrong : ChangeSpec := { name := "compactEmpties", fn := fun _ => fun
  | [d1, d2, d3, d4] => { results := [.lit (.bool false)], args := [d1, d2, d3, d4] }
  | _ => none }
def CompactEmptiesWrongFalsely : Prop := compactEmptiesRow.holds Try.pinned (OpenSpec.ofChange compactEmptiesWrong)

/-- 'erewhilelaw18.ExtentLog': WHATEVER THE INPUT: true; the input reads as it did. -/
def extentLogSpec : ChangeSpec := { name := "extentLog", fn := fun _ => fun
  | [d1, d2, d3] => { results := [.lit (.bool true)], args := [d1, d2, d3] }
  | _ => none }
def extentLogRow : OpenClaim := { program := "ytighbhplfjjgpaa", sum := "73752a2a45c6cbcd0d8cbdbe70721a637a58e10431a717c962e6b94a8450e163", func := "erewhile/erewhilelaw18.ExtentLog", spec := "extentLog", unfollowed := true, recurses := true, apart := false }
def ExtentLogSaid : Prop := extentLogRow.holds Try.pinned (OpenSpec.ofChange extentLogSpec)

/-- ITS FALSE NEIGHBOUR: 'it returns false'. Refute it at one input. -/
def extentLogWrong : ChangeSpec := { name := "extentLog", fn := fun _ => fun
  | [d1, d2, d3] => { results := [.lit (.bool false)], args := [d1, d2, d3] }
  | _ => none }
def ExtentLogWrongFalsely : Prop := extentLogRow.holds Try.pinned (OpenSpec.ofChange extentLogWrong)

/-- 'erewhilelaw42.CompactCarried': WHATEVER THE INPUT: true; the input reads as it did. -/
def compactCarriedSpec : ChangeSpec := { name := "compactCarried", fn := fun _ => fun
  | [d1, d2, d3] => { results := [.lit (.bool true)], args := [d1, d2, d3] }
  | _ => none }
def compactCarriedRow : OpenClaim := { program := "ytighbhplfjjgpaa", sum := "73752a2a45c6cbcd0d8cbdbe70721a637a58e10431a717c962e6b94a8450e163", func := "erewhile/erewhilelaw42.CompactCarried", spec := "compactCarried", unfollowed := true, recurses := true, apart := false }
def CompactCarriedSaid : Prop := compactCarriedRow.holds Try.pinned (OpenSpec.ofChange compactCarriedSpec)

/-- ITS FALSE NEIGHBOUR: 'it returns false'. Refute it at one input. -/
def compactCarriedWrong : ChangeSpec := { name := "compactCarried", fn := fun _ => fun
  | [d1, d2, d3] => { results := [.lit (.bool false)], args := [d1, d2, d3] }
  | _ => none }
def CompactCarriedWrongFalsely : Prop := compactCarriedRow.holds Try.pinned (OpenSpec.ofChange compactCarriedWrong)

/- THE SECOND FORM. 'bulk': how many values and letters a reading holds, each counted each time it is reached (what is shared counts as often as it is met; a slice's spare places count too). A statement '..UptoSaid' is the law's where the arguments, and the package variables that the reading takes, are together of bulk at most 1048576: NARROWER than '..Said'. Prove '..Said' where nothing that the law and all that it calls make is longer than what came in: it says more and counts as full. Else prove '..UptoSaid'. A law counts once. -/
mutual
def uptoBulk {H : Type} : DataW H → Nat
  | .lit (.string bytes) => bytes.length + 1
  | .lit _ => 1
  | .nil => 1
  | .ptr d => uptoBulk d + 1
  | .slice elems spare => uptoBulkAll elems + uptoBulkAll spare + 1
  | .agg parts => uptoBulkAll parts + 1
  | .iface _ d => uptoBulk d + 1
  | .map entries => uptoBulkEntries entries + 1
  | .held _ => 1
def uptoBulkAll {H : Type} : List (DataW H) → Nat
  | [] => 0
  | d :: r => uptoBulk d + uptoBulkAll r
def uptoBulkEntries {H : Type} : List (Lit × DataW H) → Nat
  | [] => 0
  | x :: r => uptoBulkEntry x + uptoBulkEntries r
def uptoBulkEntry {H : Type} : Lit × DataW H → Nat
  | (.string bytes, d) => bytes.length + uptoBulk d + 1
  | (_, d) => uptoBulk d + 1
 end
def uptoSmall : (H : Type) → List (DataW H) → Bool := fun _ ds => decide (uptoBulkAll ds ≤ 1048576)
def OpenSpec.upto (s : _root_.Go.ChangeSpec) : _root_.Go.OpenSpec := { _root_.Go.OpenSpec.ofChange s with cond := some uptoSmall }

/-- 'erewhilelaw42.CompactHead', WHERE WHAT IT READS IS OF BULK AT MOST 1048576: true; the input reads as it did. -/
def compactHeadUptoRow : OpenClaim := { program := "ytighbhplfjjgpaa", sum := "73752a2a45c6cbcd0d8cbdbe70721a637a58e10431a717c962e6b94a8450e163", func := "erewhile/erewhilelaw42.CompactHead", spec := "compactHead", unfollowed := true, recurses := true, apart := false, narrowed := true }
def CompactHeadUptoSaid : Prop := compactHeadUptoRow.holds Try.pinned (OpenSpec.upto compactHeadSpec)

/-- 'erewhilelaw42.CompactAlways', WHERE WHAT IT READS IS OF BULK AT MOST 1048576: true; the input reads as it did. -/
def compactAlwaysUptoRow : OpenClaim := { program := "ytighbhplfjjgpaa", sum := "73752a2a45c6cbcd0d8cbdbe70721a637a58e10431a717c962e6b94a8450e163", func := "erewhile/erewhilelaw42.CompactAlways", spec := "compactAlways", unfollowed := true, recurses := true, apart := false, narrowed := true }
def CompactAlwaysUptoSaid : Prop := compactAlwaysUptoRow.holds Try.pinned (OpenSpec.upto compactAlwaysSpec)

/-- 'erewhilelaw42.CompactEmpties', WHERE WHAT IT READS IS OF BULK AT MOST 1048576: true; the input reads as it did. -/
def compactEmptiesUptoRow : OpenClaim := { program := "ytighbhplfjjgpaa", sum := "73752a2a45c6cbcd0d8cbdbe70721a637a58e10431a717c962e6b94a8450e163", func := "erewhile/erewhilelaw42.CompactEmpties", spec := "compactEmpties", unfollowed := true, recurses := true, apart := false, narrowed := true }
def CompactEmptiesUptoSaid : Prop := compactEmptiesUptoRow.holds Try.pinned (OpenSpec.upto compactEmptiesSpec)

/-- 'erewhilelaw18.ExtentLog', WHERE WHAT IT READS IS OF BULK AT MOST 1048576: true; the input reads as it did. -/
def extentLogUptoRow : OpenClaim := { program := "ytighbhplfjjgpaa", sum := "73752a2a45c6cbcd0d8cbdbe70721a637a58e10431a717c962e6b94a8450e163", func := "erewhile/erewhilelaw18.ExtentLog", spec := "extentLog", unfollowed := true, recurses := true, apart := false, narrowed := true }
def ExtentLogUptoSaid : Prop := extentLogUptoRow.holds Try.pinned (OpenSpec.upto extentLogSpec)

/-- 'erewhilelaw42.CompactCarried', WHERE WHAT IT READS IS OF BULK AT MOST 1048576: true; the input reads as it did. -/
def compactCarriedUptoRow : OpenClaim := { program := "ytighbhplfjjgpaa", sum := "73752a2a45c6cbcd0d8cbdbe70721a637a58e10431a717c962e6b94a8450e163", func := "erewhile/erewhilelaw42.CompactCarried", spec := "compactCarried", unfollowed := true, recurses := true, apart := false, narrowed := true }
def CompactCarriedUptoSaid : Prop := compactCarriedUptoRow.holds Try.pinned (OpenSpec.upto compactCarriedSpec)

end Rows
end Go.Proofs.Ytighbhplfjjgpaa
