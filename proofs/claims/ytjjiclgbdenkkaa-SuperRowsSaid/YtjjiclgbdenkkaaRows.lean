/-
  No cell of these rows narrows 'for every input' (looked for: loops, veiled, ifaces, maps, wideKeys, modest, calm, conditions, laid).
  DERIVED. THE GIVEN ROWS OF THIS SEAT. 12 by the template 'for every input the law returns true; each argument reads behind the call as it read before'; 0 by the template 'total and deterministic' (their statements: YtjjiclgbdenkkaaTotals.lean).
  GIVEN WITH THE SEED: the statements are not yours to turn. If you find one false, say at which input.
  Laid BY PROGRAM, IN A SANDBOX (cutbox-rows.mjs): the forced cells as the released guide's own fill.sh prints them over the translation 586bb7994eb8911c… (all of the seat's roots in one cut). By AI agents, Wed Nov 11 2026. No macro, syntax, notation, axiom, sorry.
-/
import Derived.Test.YtjjiclgbdenkkaaChecked
import GoSem.Claim
import GoSem.ClaimJoined
import GoSem.ClaimMapViews
import Derived.JoinedTies
import Derived.KernelRfl
namespace Go.Proofs.Ytjjiclgbdenkkaa
/- THE CELL 'sum', in the pinned program and in every row, IS THE sha256 OF THE DUMP (.gsa) THAT YtjjiclgbdenkkaaProg.lean LOADS. Nothing in Lean hashes anything: it is a label: what it is worth is what the hold of that sum in a sandbox is worth. -/
noncomputable def Try.pinned : Pinned := { name := "ytjjiclgbdenkkaa", sum := "586bb7994eb8911cc6d080e7ac5a6ddd990188867364307015350af232db266a", checked := Try.checked }
namespace Rows
def none {H : Type} : Left H := { results := [], args := [] }

/-- 'erewhilelaw09.MirrorTurned': WHATEVER THE INPUT: true; the input reads as it did. -/
def mirrorTurnedSpec : ChangeSpec := { name := "mirrorTurned", fn := fun _ => fun
  | [d1, d2] => { results := [.lit (.bool true)], args := [d1, d2] }
  | _ => none }
def mirrorTurnedRow : OpenClaim := { program := "ytjjiclgbdenkkaa", sum := "586bb7994eb8911cc6d080e7ac5a6ddd990188867364307015350af232db266a", func := "erewhile/erewhilelaw09.MirrorTurned", spec := "mirrorTurned", unfollowed := true, recurses := true, apart := false }
def MirrorTurnedSaid : Prop := mirrorTurnedRow.holds Try.pinned (OpenSpec.ofChange mirrorTurnedSpec)

/-- ITS FALSE NEIGHBOUR: 'it returns false'. Refute it at one input. -/
def mirrorTurnedWrong : ChangeSpec := { name := "mirrorTurned", fn := fun _ => fun
  | [d1, d2] => { results := [.lit (.bool false)], args := [d1, d2] }
  | _ => none }
def MirrorTurnedWrongFalsely : Prop := mirrorTurnedRow.holds Try.pinned (OpenSpec.ofChange mirrorTurnedWrong)

/-- 'erewhilelaw09.MirrorFlush': WHATEVER THE INPUT: true; the input reads as it did. -/
def mirrorFlushSpec : ChangeSpec := { name := "mirrorFlush", fn := fun _ => fun
  | [d1, d2, d3, d4] => { results := [.lit (.bool true)], args := [d1, d2, d3, d4] }
  | _ => none }
def mirrorFlushRow : OpenClaim := { program := "ytjjiclgbdenkkaa", sum := "586bb7994eb8911cc6d080e7ac5a6ddd990188867364307015350af232db266a", func := "erewhile/erewhilelaw09.MirrorFlush", spec := "mirrorFlush", unfollowed := true, recurses := true, apart := false }
def MirrorFlushSaid : Prop := mirrorFlushRow.holds Try.pinned (OpenSpec.ofChange mirrorFlushSpec)

/-- ITS FALSE NEIGHBOUR: 'it returns false'. Refute it at one input. -/
def mirrorFlushWrong : ChangeSpec := { name := "mirrorFlush", fn := fun _ => fun
  | [d1, d2, d3, d4] => { results := [.lit (.bool false)], args := [d1, d2, d3, d4] }
  | _ => none }
def MirrorFlushWrongFalsely : Prop := mirrorFlushRow.holds Try.pinned (OpenSpec.ofChange mirrorFlushWrong)

/-- 'erewhilelaw09.MirrorOne': WHATEVER THE INPUT: true; the input reads as it did. -/
def mirrorOneSpec : ChangeSpec := { name := "mirrorOne", fn := fun _ => fun
  | [d] => { results := [.lit (.bool true)], args := [d] }
  | _ => none }
def mirrorOneRow : OpenClaim := { program := "ytjjiclgbdenkkaa", sum := "586bb7994eb8911cc6d080e7ac5a6ddd990188867364307015350af232db266a", func := "erewhile/erewhilelaw09.MirrorOne", spec := "mirrorOne", unfollowed := true, recurses := true, apart := false }
def MirrorOneSaid : Prop := mirrorOneRow.holds Try.pinned (OpenSpec.ofChange mirrorOneSpec)

/-- ITS FALSE NEIGHBOUR: 'it returns false'. Refute it at one input. -/
def mirrorOneWrong : ChangeSpec := { name := "mirrorOne", fn := fun _ => fun
  | [d] => { results := [.lit (.bool false)], args := [d] }
  | _ => none }
def MirrorOneWrongFalsely : Prop := mirrorOneRow.holds Try.pinned (OpenSpec.ofChange mirrorOneWrong)

/-- 'erewhilelaw09.MirrorNone': WHATEVER THE INPUT: true; the input reads as it did. -/
def mirrorNoneSpec : ChangeSpec := { name := "mirrorNone", fn := fun _ => fun
  | [d1, d2, d3] => { results := [.lit (.bool true)], args := [d1, d2, d3] }
  | _ => none }
def mirrorNoneRow : OpenClaim := { program := "ytjjiclgbdenkkaa", sum := "586bb7994eb8911cc6d080e7ac5a6ddd990188867364307015350af232db266a", func := "erewhile/erewhilelaw09.MirrorNone", spec := "mirrorNone", unfollowed := true, recurses := true, apart := false }
def MirrorNoneSaid : Prop := mirrorNoneRow.holds Try.pinned (OpenSpec.ofChange mirrorNoneSpec)

/-- ITS FALSE NEIGHBOUR: 'it returns false'. Refute it at one input. -/
def mirrorNoneWrong : ChangeSpec := { name := "mirrorNone", fn := fun _ => fun
  | [d1, d2, d3] => { results := [.lit (.bool false)], args := [d1, d2, d3] }
  | _ => none }
def MirrorNoneWrongFalsely : Prop := mirrorNoneRow.holds Try.pinned (OpenSpec.ofChange mirrorNoneWrong)

/-- 'erewhilelaw09.MirrorPlays': WHATEVER THE INPUT: true; the input reads as it did. -/
def mirrorPlaysSpec : ChangeSpec := { name := "mirrorPlays", fn := fun _ => fun
  | [d1, d2, d3] => { results := [.lit (.bool true)], args := [d1, d2, d3] }
  | _ => none }
def mirrorPlaysRow : OpenClaim := { program := "ytjjiclgbdenkkaa", sum := "586bb7994eb8911cc6d080e7ac5a6ddd990188867364307015350af232db266a", func := "erewhile/erewhilelaw09.MirrorPlays", spec := "mirrorPlays", unfollowed := true, recurses := true, apart := false }
def MirrorPlaysSaid : Prop := mirrorPlaysRow.holds Try.pinned (OpenSpec.ofChange mirrorPlaysSpec)

/-- ITS FALSE NEIGHBOUR: 'it returns false'. Refute it at one input. -/
def mirrorPlaysWrong : ChangeSpec := { name := "mirrorPlays", fn := fun _ => fun
  | [d1, d2, d3] => { results := [.lit (.bool false)], args := [d1, d2, d3] }
  | _ => none }
def MirrorPlaysWrongFalsely : Prop := mirrorPlaysRow.holds Try.pinned (OpenSpec.ofChange mirrorPlaysWrong)

/-- 'erewhilelaw09.MirrorHeals': WHATEVER THE INPUT: true; the input reads as it did. -/
def mirrorHealsSpec : ChangeSpec := { name := "mirrorHeals", fn := fun _ => fun
  | [d1, d2] => { results := [.lit (.bool true)], args := [d1, d2] }
  | _ => none }
def mirrorHealsRow : OpenClaim := { program := "ytjjiclgbdenkkaa", sum := "586bb7994eb8911cc6d080e7ac5a6ddd990188867364307015350af232db266a", func := "erewhile/erewhilelaw09.MirrorHeals", spec := "mirrorHeals", unfollowed := true, recurses := true, apart := false }
def MirrorHealsSaid : Prop := mirrorHealsRow.holds Try.pinned (OpenSpec.ofChange mirrorHealsSpec)

/-- ITS FALSE NEIGHBOUR: 'it returns false'. Refute it at one input. -/
def mirrorHealsWrong : ChangeSpec := { name := "mirrorHeals", fn := fun _ => fun
  | [d1, d2] => { results := [.lit (.bool false)], args := [d1, d2] }
  | _ => none }
def MirrorHealsWrongFalsely : Prop := mirrorHealsRow.holds Try.pinned (OpenSpec.ofChange mirrorHealsWrong)

/-- 'erewhilelaw16.SuperWrites': WHATEVER THE INPUT: true; the input reads as it did. -/
def superWritesSpec : ChangeSpec := { name := "superWrites", fn := fun _ => fun
  | [d] => { results := [.lit (.bool true)], args := [d] }
  | _ => none }
def superWritesRow : OpenClaim := { program := "ytjjiclgbdenkkaa", sum := "586bb7994eb8911cc6d080e7ac5a6ddd990188867364307015350af232db266a", func := "erewhile/erewhilelaw16.SuperWrites", spec := "superWrites", unfollowed := true, recurses := true, apart := false }
def SuperWritesSaid : Prop := superWritesRow.holds Try.pinned (OpenSpec.ofChange superWritesSpec)

/-- ITS FALSE NEIGHBOUR: 'it returns false'. Refute it at one input. -/
def superWritesWrong : ChangeSpec := { name := "superWrites", fn := fun _ => fun
  | [d] => { results := [.lit (.bool false)], args := [d] }
  | _ => none }
def SuperWritesWrongFalsely : Prop := superWritesRow.holds Try.pinned (OpenSpec.ofChange superWritesWrong)

/-- 'erewhilelaw16.SuperReads': WHATEVER THE INPUT: true; the input reads as it did. -/
def superReadsSpec : ChangeSpec := { name := "superReads", fn := fun _ => fun
  | [d1, d2] => { results := [.lit (.bool true)], args := [d1, d2] }
  | _ => none }
def superReadsRow : OpenClaim := { program := "ytjjiclgbdenkkaa", sum := "586bb7994eb8911cc6d080e7ac5a6ddd990188867364307015350af232db266a", func := "erewhile/erewhilelaw16.SuperReads", spec := "superReads", unfollowed := true, recurses := true, apart := false }
def SuperReadsSaid : Prop := superReadsRow.holds Try.pinned (OpenSpec.ofChange superReadsSpec)

/-- ITS FALSE NEIGHBOUR: 'it returns false'. Refute it at one input. -/
def superReadsWrong : ChangeSpec := { name := "superReads", fn := fun _ => fun
  | [d1, d2] => { results := [.lit (.bool false)], args := [d1, d2] }
  | _ => none }
def SuperReadsWrongFalsely : Prop := superReadsRow.holds Try.pinned (OpenSpec.ofChange superReadsWrong)

/-- 'erewhilelaw16.SuperRows': WHATEVER THE INPUT: true; the input reads as it did. -/
def superRowsSpec : ChangeSpec := { name := "superRows", fn := fun _ => fun
  | [d1, d2] => { results := [.lit (.bool true)], args := [d1, d2] }
  | _ => none }
def superRowsRow : OpenClaim := { program := "ytjjiclgbdenkkaa", sum := "586bb7994eb8911cc6d080e7ac5a6ddd990188867364307015350af232db266a", func := "erewhile/erewhilelaw16.SuperRows", spec := "superRows", unfollowed := true, recurses := true, apart := false }
def SuperRowsSaid : Prop := superRowsRow.holds Try.pinned (OpenSpec.ofChange superRowsSpec)

/-- ITS FALSE NEIGHBOUR: 'it returns false'. Refute it at one input. -/
def superRowsWrong : ChangeSpec := { name := "superRows", fn := fun _ => fun
  | [d1, d2] => { results := [.lit (.bool false)], args := [d1, d2] }
  | _ => none }
def SuperRowsWrongFalsely : Prop := superRowsRow.holds Try.pinned (OpenSpec.ofChange superRowsWrong)

/-- 'erewhilelaw16.SuperOne': WHATEVER THE INPUT: true; the input reads as it did. -/
def superOneSpec : ChangeSpec := { name := "superOne", fn := fun _ => fun
  | [d1, d2, d3, d4, d5] => { results := [.lit (.bool true)], args := [d1, d2, d3, d4, d5] }
  | _ => none }
def superOneRow : OpenClaim := { program := "ytjjiclgbdenkkaa", sum := "586bb7994eb8911cc6d080e7ac5a6ddd990188867364307015350af232db266a", func := "erewhile/erewhilelaw16.SuperOne", spec := "superOne", unfollowed := true, recurses := true, apart := false }
def SuperOneSaid : Prop := superOneRow.holds Try.pinned (OpenSpec.ofChange superOneSpec)

/-- ITS FALSE NEIGHBOUR: 'it returns false'. Refute it at one input. -/
def superOneWrong : ChangeSpec := { name := "superOne", fn := fun _ => fun
  | [d1, d2, d3, d4, d5] => { results := [.lit (.bool false)], args := [d1, d2, d3, d4, d5] }
  | _ => none }
def SuperOneWrongFalsely : Prop := superOneRow.holds Try.pinned (OpenSpec.ofChange superOneWrong)

/-- 'erewhilelaw16.SuperScrub': WHATEVER THE INPUT: true; the input reads as it did. -/
def superScrubSpec : ChangeSpec := { name := "superScrub", fn := fun _ => fun
  | [d1, d2, d3, d4] => { results := [.lit (.bool true)], args := [d1, d2, d3, d4] }
  | _ => none }
def superScrubRow : OpenClaim := { program := "ytjjiclgbdenkkaa", sum := "586bb7994eb8911cc6d080e7ac5a6ddd990188867364307015350af232db266a", func := "erewhile/erewhilelaw16.SuperScrub", spec := "superScrub", unfollowed := true, recurses := true, apart := false }
def SuperScrubSaid : Prop := superScrubRow.holds Try.pinned (OpenSpec.ofChange superScrubSpec)

/-- ITS FALSE NEIGHBOUR: 'it returns false'. Refute it at one input. -/
def superScrubWrong : ChangeSpec := { name := "superScrub", fn := fun _ => fun
  | [d1, d2, d3, d4] => { results := [.lit (.bool false)], args := [d1, d2, d3, d4] }
  | _ => none }
def SuperScrubWrongFalsely : Prop := superScrubRow.holds Try.pinned (OpenSpec.ofChange superScrubWrong)

/-- 'erewhilelaw11.SectorMirror': WHATEVER THE INPUT: true; the input reads as it did. -/
def sectorMirrorSpec : ChangeSpec := { name := "sectorMirror", fn := fun _ => fun
  | [d1, d2, d3, d4, d5] => { results := [.lit (.bool true)], args := [d1, d2, d3, d4, d5] }
  | _ => none }
def sectorMirrorRow : OpenClaim := { program := "ytjjiclgbdenkkaa", sum := "586bb7994eb8911cc6d080e7ac5a6ddd990188867364307015350af232db266a", func := "erewhile/erewhilelaw11.SectorMirror", spec := "sectorMirror", unfollowed := true, recurses := true, apart := false }
def SectorMirrorSaid : Prop := sectorMirrorRow.holds Try.pinned (OpenSpec.ofChange sectorMirrorSpec)

/-- ITS FALSE NEIGHBOUR: 'it returns false'. Refute it at one input. -/
def sectorMirrorWrong : ChangeSpec := { name := "sectorMirror", fn := fun _ => fun
  | [d1, d2, d3, d4, d5] => { results := [.lit (.bool false)], args := [d1, d2, d3, d4, d5] }
  | _ => none }
def SectorMirrorWrongFalsely : Prop := sectorMirrorRow.holds Try.pinned (OpenSpec.ofChange sectorMirrorWrong)

/- THE SECOND FORM. 'bulk': how many values and letters a reading holds, each counted each time it is reached (what is shared counts as often as it is met; a slice's spare places count too). A statement '..UptoSaid' is the law's where the arguments, and the package variables that the reading takes, are together of bulk at most 1048576: NARROWER than '..Said'. Prove '..Said' where nothing that the law and all that it calls make is longer than what came in: it says more and counts as full. Else prove '..UptoSaid'. A law counts once. -/
mutual
def uptoBulk {H : Type} : DataW H → Nat
  | .lit (.string bytes) => bytes.length + 1
  | .lit _ => 1
  | .nil => 1
  | .ptr d => uptoBulk d + 1
  | .slice elems spare => uptoBulkAll elems + uptoBulkAll spare + 1
  | .agg parts => uptoBulkAll parts + 1
  | .iface _ d => uptoBulk d + 1
  | .map entries => uptoBulkEntries entries + 1
  | .held _ => 1
def uptoBulkAll {H : Type} : List (DataW H) → Nat
  | [] => 0
  | d :: r => uptoBulk d + uptoBulkAll r
def uptoBulkEntries {H : Type} : List (Lit × DataW H) → Nat
  | [] => 0
  | x :: r => uptoBulkEntry x + uptoBulkEntries r
def uptoBulkEntry {H : Type} : Lit × DataW H → Nat
  | (.string bytes, d) => bytes.length + uptoBulk d + 1
  | (_, d) => uptoBulk d + 1
 end
def uptoSmall : (H : Type) → List (DataW H) → Bool := fun _ ds => decide (uptoBulkAll ds ≤ 1048576)
def OpenSpec.upto (s : _root_.Go.ChangeSpec) : _root_.Go.OpenSpec := { _root_.Go.OpenSpec.ofChange s with cond := some uptoSmall }

/-- 'erewhilelaw09.MirrorTurned', WHERE WHAT IT READS IS OF BULK AT MOST 1048576: true; the input reads as it did. -/
def mirrorTurnedUptoRow : OpenClaim := { program := "ytjjiclgbdenkkaa", sum := "586bb7994eb8911cc6d080e7ac5a6ddd990188867364307015350af232db266a", func := "erewhile/erewhilelaw09.MirrorTurned", spec := "mirrorTurned", unfollowed := true, recurses := true, apart := false, narrowed := true }
def MirrorTurnedUptoSaid : Prop := mirrorTurnedUptoRow.holds Try.pinned (OpenSpec.upto mirrorTurnedSpec)

/-- 'erewhilelaw09.MirrorFlush', WHERE WHAT IT READS IS OF BULK AT MOST 1048576: true; the input reads as it did. -/
def mirrorFlushUptoRow : OpenClaim := { program := "ytjjiclgbdenkkaa", sum := "586bb7994eb8911cc6d080e7ac5a6ddd990188867364307015350af232db266a", func := "erewhile/erewhilelaw09.MirrorFlush", spec := "mirrorFlush", unfollowed := true, recurses := true, apart := false, narrowed := true }
def MirrorFlushUptoSaid : Prop := mirrorFlushUptoRow.holds Try.pinned (OpenSpec.upto mirrorFlushSpec)

/-- 'erewhilelaw09.MirrorOne', WHERE WHAT IT READS IS OF BULK AT MOST 1048576: true; the input reads as it did. -/
def mirrorOneUptoRow : OpenClaim := { program := "ytjjiclgbdenkkaa", sum := "586bb7994eb8911cc6d080e7ac5a6ddd990188867364307015350af232db266a", func := "erewhile/erewhilelaw09.MirrorOne", spec := "mirrorOne", unfollowed := true, recurses := true, apart := false, narrowed := true }
def MirrorOneUptoSaid : Prop := mirrorOneUptoRow.holds Try.pinned (OpenSpec.upto mirrorOneSpec)

/-- 'erewhilelaw09.MirrorNone', WHERE WHAT IT READS IS OF BULK AT MOST 1048576: true; the input reads as it did. -/
def mirrorNoneUptoRow : OpenClaim := { program := "ytjjiclgbdenkkaa", sum := "586bb7994eb8911cc6d080e7ac5a6ddd990188867364307015350af232db266a", func := "erewhile/erewhilelaw09.MirrorNone", spec := "mirrorNone", unfollowed := true, recurses := true, apart := false, narrowed := true }
def MirrorNoneUptoSaid : Prop := mirrorNoneUptoRow.holds Try.pinned (OpenSpec.upto mirrorNoneSpec)

/-- 'erewhilelaw09.MirrorPlays', WHERE WHAT IT READS IS OF BULK AT MOST 1048576: true; the input reads as it did. -/
def mirrorPlaysUptoRow : OpenClaim := { program := "ytjjiclgbdenkkaa", sum := "586bb7994eb8911cc6d080e7ac5a6ddd990188867364307015350af232db266a", func := "erewhile/erewhilelaw09.MirrorPlays", spec := "mirrorPlays", unfollowed := true, recurses := true, apart := false, narrowed := true }
def MirrorPlaysUptoSaid : Prop := mirrorPlaysUptoRow.holds Try.pinned (OpenSpec.upto mirrorPlaysSpec)

/-- 'erewhilelaw09.MirrorHeals', WHERE WHAT IT READS IS OF BULK AT MOST 1048576: true; the input reads as it did. -/
def mirrorHealsUptoRow : OpenClaim := { program := "ytjjiclgbdenkkaa", sum := "586bb7994eb8911cc6d080e7ac5a6ddd990188867364307015350af232db266a", func := "erewhile/erewhilelaw09.MirrorHeals", spec := "mirrorHeals", unfollowed := true, recurses := true, apart := false, narrowed := true }
def MirrorHealsUptoSaid : Prop := mirrorHealsUptoRow.holds Try.pinned (OpenSpec.upto mirrorHealsSpec)

/-- 'erewhilelaw16.SuperWrites', WHERE WHAT IT READS IS OF BULK AT MOST 1048576: true; the input reads as it did. -/
def superWritesUptoRow : OpenClaim := { program := "ytjjiclgbdenkkaa", sum := "586bb7994eb8911cc6d080e7ac5a6ddd990188867364307015350af232db266a", func := "erewhile/erewhilelaw16.SuperWrites", spec := "superWrites", unfollowed := true, recurses := true, apart := false, narrowed := true }
def SuperWritesUptoSaid : Prop := superWritesUptoRow.holds Try.pinned (OpenSpec.upto superWritesSpec)

/-- 'erewhilelaw16.SuperReads', WHERE WHAT IT READS IS OF BULK AT MOST 1048576: true; the input reads as it did. -/
def superReadsUptoRow : OpenClaim := { program := "ytjjiclgbdenkkaa", sum := "586bb7994eb8911cc6d080e7ac5a6ddd990188867364307015350af232db266a", func := "erewhile/erewhilelaw16.SuperReads", spec := "superReads", unfollowed := true, recurses := true, apart := false, narrowed := true }
def SuperReadsUptoSaid : Prop := superReadsUptoRow.holds Try.pinned (OpenSpec.upto superReadsSpec)

/-- 'erewhilelaw16.SuperRows', WHERE WHAT IT READS IS OF BULK AT MOST 1048576: true; the input reads as it did. -/
def superRowsUptoRow : OpenClaim := { program := "ytjjiclgbdenkkaa", sum := "586bb7994eb8911cc6d080e7ac5a6ddd990188867364307015350af232db266a", func := "erewhile/erewhilelaw16.SuperRows", spec := "superRows", unfollowed := true, recurses := true, apart := false, narrowed := true }
def SuperRowsUptoSaid : Prop := superRowsUptoRow.holds Try.pinned (OpenSpec.upto superRowsSpec)

/-- 'erewhilelaw16.SuperOne', WHERE WHAT IT READS IS OF BULK AT MOST 1048576: true; the input reads as it did. -/
def superOneUptoRow : OpenClaim := { program := "ytjjiclgbdenkkaa", sum := "586bb7994eb8911cc6d080e7ac5a6ddd990188867364307015350af232db266a", func := "erewhile/erewhilelaw16.SuperOne", spec := "superOne", unfollowed := true, recurses := true, apart := false, narrowed := true }
def SuperOneUptoSaid : Prop := superOneUptoRow.holds Try.pinned (OpenSpec.upto superOneSpec)

/-- 'erewhilelaw16.SuperScrub', WHERE WHAT IT READS IS OF BULK AT MOST 1048576: true; the input reads as it did. -/
def superScrubUptoRow : OpenClaim := { program := "ytjjiclgbdenkkaa", sum := "586bb7994eb8911cc6d080e7ac5a6ddd990188867364307015350af232db266a", func := "erewhile/erewhilelaw16.SuperScrub", spec := "superScrub", unfollowed := true, recurses := true, apart := false, narrowed := true }
def SuperScrubUptoSaid : Prop := superScrubUptoRow.holds Try.pinned (OpenSpec.upto superScrubSpec)

/-- 'erewhilelaw11.SectorMirror', WHERE WHAT IT READS IS OF BULK AT MOST 1048576: true; the input reads as it did. -/
def sectorMirrorUptoRow : OpenClaim := { program := "ytjjiclgbdenkkaa", sum := "586bb7994eb8911cc6d080e7ac5a6ddd990188867364307015350af232db266a", func := "erewhile/erewhilelaw11.SectorMirror", spec := "sectorMirror", unfollowed := true, recurses := true, apart := false, narrowed := true }
def SectorMirrorUptoSaid : Prop := sectorMirrorUptoRow.holds Try.pinned (OpenSpec.upto sectorMirrorSpec)

end Rows
end Go.Proofs.Ytjjiclgbdenkkaa
