/-
  No cell of these rows narrows 'for every input' (looked for: loops, veiled, ifaces, maps, wideKeys, modest, calm, conditions, laid).
  DERIVED. THE GIVEN ROWS OF THIS SEAT. 10 by the template 'for every input the law returns true; each argument reads behind the call as it read before'; 0 by the template 'total and deterministic' (their statements: YtoaalclbplgegaaTotals.lean).
  GIVEN WITH THE SEED: the statements are not yours to turn. If you find one false, say at which input.
  Laid BY PROGRAM, IN A SANDBOX (cutbox-rows.mjs): the forced cells as the released guide's own fill.sh prints them over the translation d0236829db1b72a0… (all of the seat's roots in one cut). By AI agents, Wed Nov 11 2026. No macro, syntax, notation, axiom, sorry.
-/
import Derived.Test.YtoaalclbplgegaaChecked
import GoSem.Claim
import GoSem.ClaimJoined
import GoSem.ClaimMapViews
import Derived.JoinedTies
import Derived.KernelRfl
namespace Go.Proofs.Ytoaalclbplgegaa
/- THE CELL 'sum', in the pinned program and in every row, IS THE sha256 OF THE DUMP (.gsa) THAT YtoaalclbplgegaaProg.lean LOADS. Nothing in Lean hashes anything: it is a label: what it is worth is what the hold of that sum in a sandbox is worth. -/
noncomputable def Try.pinned : Pinned := { name := "ytoaalclbplgegaa", sum := "d0236829db1b72a0bb3e0317f9a61ad1ea9b532894c9ce548e97973e441c68f9", checked := Try.checked }
namespace Rows
def none {H : Type} : Left H := { results := [], args := [] }

/-- 'erewhilelaw10.ScrubAll': WHATEVER THE INPUT: true; the input reads as it did. -/
def scrubAllSpec : ChangeSpec := { name := "scrubAll", fn := fun _ => fun
  | [d1, d2] => { results := [.lit (.bool true)], args := [d1, d2] }
  | _ => none }
def scrubAllRow : OpenClaim := { program := "ytoaalclbplgegaa", sum := "d0236829db1b72a0bb3e0317f9a61ad1ea9b532894c9ce548e97973e441c68f9", func := "erewhile/erewhilelaw10.ScrubAll", spec := "scrubAll", unfollowed := true, recurses := true, apart := false }
def ScrubAllSaid : Prop := scrubAllRow.holds Try.pinned (OpenSpec.ofChange scrubAllSpec)

/-- ITS FALSE NEIGHBOUR: 'it returns false'. Refute it at one input. -/
def scrubAllWrong : ChangeSpec := { name := "scrubAll", fn := fun _ => fun
  | [d1, d2] => { results := [.lit (.bool false)], args := [d1, d2] }
  | _ => none }
def ScrubAllWrongFalsely : Prop := scrubAllRow.holds Try.pinned (OpenSpec.ofChange scrubAllWrong)

/-- 'erewhilelaw10.ScrubSteps': WHATEVER THE INPUT: true; the input reads as it did. -/
def scrubStepsSpec : ChangeSpec := { name := "scrubSteps", fn := fun _ => fun
  | [d1, d2, d3] => { results := [.lit (.bool true)], args := [d1, d2, d3] }
  | _ => none }
def scrubStepsRow : OpenClaim := { program := "ytoaalclbplgegaa", sum := "d0236829db1b72a0bb3e0317f9a61ad1ea9b532894c9ce548e97973e441c68f9", func := "erewhile/erewhilelaw10.ScrubSteps", spec := "scrubSteps", unfollowed := true, recurses := true, apart := false }
def ScrubStepsSaid : Prop := scrubStepsRow.holds Try.pinned (OpenSpec.ofChange scrubStepsSpec)

/-- ITS FALSE NEIGHBOUR: 'it returns false'. Refute it at one input. -/
def scrubStepsWrong : ChangeSpec := { name := "scrubSteps", fn := fun _ => fun
  | [d1, d2, d3] => { results := [.lit (.bool false)], args := [d1, d2, d3] }
  | _ => none }
def ScrubStepsWrongFalsely : Prop := scrubStepsRow.holds Try.pinned (OpenSpec.ofChange scrubStepsWrong)

/-- 'erewhilelaw10.ScrubNone': WHATEVER THE INPUT: true; the input reads as it did. -/
def scrubNoneSpec : ChangeSpec := { name := "scrubNone", fn := fun _ => fun
  | [d] => { results := [.lit (.bool true)], args := [d] }
  | _ => none }
def scrubNoneRow : OpenClaim := { program := "ytoaalclbplgegaa", sum := "d0236829db1b72a0bb3e0317f9a61ad1ea9b532894c9ce548e97973e441c68f9", func := "erewhile/erewhilelaw10.ScrubNone", spec := "scrubNone", unfollowed := true, recurses := true, apart := false }
def ScrubNoneSaid : Prop := scrubNoneRow.holds Try.pinned (OpenSpec.ofChange scrubNoneSpec)

/-- ITS FALSE NEIGHBOUR: 'it returns false'. Refute it at one input. -/
def scrubNoneWrong : ChangeSpec := { name := "scrubNone", fn := fun _ => fun
  | [d] => { results := [.lit (.bool false)], args := [d] }
  | _ => none }
def ScrubNoneWrongFalsely : Prop := scrubNoneRow.holds Try.pinned (OpenSpec.ofChange scrubNoneWrong)

/-- 'erewhilelaw10.ScrubDown': WHATEVER THE INPUT: true; the input reads as it did. -/
def scrubDownSpec : ChangeSpec := { name := "scrubDown", fn := fun _ => fun
  | [d1, d2, d3] => { results := [.lit (.bool true)], args := [d1, d2, d3] }
  | _ => none }
def scrubDownRow : OpenClaim := { program := "ytoaalclbplgegaa", sum := "d0236829db1b72a0bb3e0317f9a61ad1ea9b532894c9ce548e97973e441c68f9", func := "erewhile/erewhilelaw10.ScrubDown", spec := "scrubDown", unfollowed := true, recurses := true, apart := false }
def ScrubDownSaid : Prop := scrubDownRow.holds Try.pinned (OpenSpec.ofChange scrubDownSpec)

/-- ITS FALSE NEIGHBOUR: 'it returns false'. Refute it at one input. -/
def scrubDownWrong : ChangeSpec := { name := "scrubDown", fn := fun _ => fun
  | [d1, d2, d3] => { results := [.lit (.bool false)], args := [d1, d2, d3] }
  | _ => none }
def ScrubDownWrongFalsely : Prop := scrubDownRow.holds Try.pinned (OpenSpec.ofChange scrubDownWrong)

/-- 'erewhilelaw10.ScrubAgain': WHATEVER THE INPUT: true; the input reads as it did. -/
def scrubAgainSpec : ChangeSpec := { name := "scrubAgain", fn := fun _ => fun
  | [d1, d2] => { results := [.lit (.bool true)], args := [d1, d2] }
  | _ => none }
def scrubAgainRow : OpenClaim := { program := "ytoaalclbplgegaa", sum := "d0236829db1b72a0bb3e0317f9a61ad1ea9b532894c9ce548e97973e441c68f9", func := "erewhile/erewhilelaw10.ScrubAgain", spec := "scrubAgain", unfollowed := true, recurses := true, apart := false }
def ScrubAgainSaid : Prop := scrubAgainRow.holds Try.pinned (OpenSpec.ofChange scrubAgainSpec)

/-- ITS FALSE NEIGHBOUR: 'it returns false'. Refute it at one input. -/
def scrubAgainWrong : ChangeSpec := { name := "scrubAgain", fn := fun _ => fun
  | [d1, d2] => { results := [.lit (.bool false)], args := [d1, d2] }
  | _ => none }
def ScrubAgainWrongFalsely : Prop := scrubAgainRow.holds Try.pinned (OpenSpec.ofChange scrubAgainWrong)

/-- 'erewhilelaw10.ScrubTurned': WHATEVER THE INPUT: true; the input reads as it did. -/
def scrubTurnedSpec : ChangeSpec := { name := "scrubTurned", fn := fun _ => fun
  | [d1, d2] => { results := [.lit (.bool true)], args := [d1, d2] }
  | _ => none }
def scrubTurnedRow : OpenClaim := { program := "ytoaalclbplgegaa", sum := "d0236829db1b72a0bb3e0317f9a61ad1ea9b532894c9ce548e97973e441c68f9", func := "erewhile/erewhilelaw10.ScrubTurned", spec := "scrubTurned", unfollowed := true, recurses := true, apart := false }
def ScrubTurnedSaid : Prop := scrubTurnedRow.holds Try.pinned (OpenSpec.ofChange scrubTurnedSpec)

/-- ITS FALSE NEIGHBOUR: 'it returns false'. Refute it at one input. -/
def scrubTurnedWrong : ChangeSpec := { name := "scrubTurned", fn := fun _ => fun
  | [d1, d2] => { results := [.lit (.bool false)], args := [d1, d2] }
  | _ => none }
def ScrubTurnedWrongFalsely : Prop := scrubTurnedRow.holds Try.pinned (OpenSpec.ofChange scrubTurnedWrong)

/-- 'erewhilelaw10.ScrubReads': WHATEVER THE INPUT: true; the input reads as it did. -/
def scrubReadsSpec : ChangeSpec := { name := "scrubReads", fn := fun _ => fun
  | [d1, d2, d3] => { results := [.lit (.bool true)], args := [d1, d2, d3] }
  | _ => none }
def scrubReadsRow : OpenClaim := { program := "ytoaalclbplgegaa", sum := "d0236829db1b72a0bb3e0317f9a61ad1ea9b532894c9ce548e97973e441c68f9", func := "erewhile/erewhilelaw10.ScrubReads", spec := "scrubReads", unfollowed := true, recurses := true, apart := false }
def ScrubReadsSaid : Prop := scrubReadsRow.holds Try.pinned (OpenSpec.ofChange scrubReadsSpec)

/-- ITS FALSE NEIGHBOUR: 'it returns false'. Refute it at one input. -/
def scrubReadsWrong : ChangeSpec := { name := "scrubReads", fn := fun _ => fun
  | [d1, d2, d3] => { results := [.lit (.bool false)], args := [d1, d2, d3] }
  | _ => none }
def ScrubReadsWrongFalsely : Prop := scrubReadsRow.holds Try.pinned (OpenSpec.ofChange scrubReadsWrong)

/-- 'erewhilelaw10.ScrubStale': WHATEVER THE INPUT: true; the input reads as it did. -/
def scrubStaleSpec : ChangeSpec := { name := "scrubStale", fn := fun _ => fun
  | [d1, d2, d3] => { results := [.lit (.bool true)], args := [d1, d2, d3] }
  | _ => none }
def scrubStaleRow : OpenClaim := { program := "ytoaalclbplgegaa", sum := "d0236829db1b72a0bb3e0317f9a61ad1ea9b532894c9ce548e97973e441c68f9", func := "erewhile/erewhilelaw10.ScrubStale", spec := "scrubStale", unfollowed := true, recurses := true, apart := false }
def ScrubStaleSaid : Prop := scrubStaleRow.holds Try.pinned (OpenSpec.ofChange scrubStaleSpec)

/-- ITS FALSE NEIGHBOUR: 'it returns false'. Refute it at one input. -/
def scrubStaleWrong : ChangeSpec := { name := "scrubStale", fn := fun _ => fun
  | [d1, d2, d3] => { results := [.lit (.bool false)], args := [d1, d2, d3] }
  | _ => none }
def ScrubStaleWrongFalsely : Prop := scrubStaleRow.holds Try.pinned (OpenSpec.ofChange scrubStaleWrong)

/-- 'erewhilelaw10.ScrubSealed': WHATEVER THE INPUT: true; the input reads as it did. -/
def scrubSealedSpec : ChangeSpec := { name := "scrubSealed", fn := fun _ => fun
  | [d1, d2, d3, d4] => { results := [.lit (.bool true)], args := [d1, d2, d3, d4] }
  | _ => none }
def scrubSealedRow : OpenClaim := { program := "ytoaalclbplgegaa", sum := "d0236829db1b72a0bb3e0317f9a61ad1ea9b532894c9ce548e97973e441c68f9", func := "erewhile/erewhilelaw10.ScrubSealed", spec := "scrubSealed", unfollowed := true, recurses := true, apart := false }
def ScrubSealedSaid : Prop := scrubSealedRow.holds Try.pinned (OpenSpec.ofChange scrubSealedSpec)

/-- ITS FALSE NEIGHBOUR: 'it returns false'. Refute it at one input. -/
def scrubSealedWrong : ChangeSpec := { name := "scrubSealed", fn := fun _ => fun
  | [d1, d2, d3, d4] => { results := [.lit (.bool false)], args := [d1, d2, d3, d4] }
  | _ => none }
def ScrubSealedWrongFalsely : Prop := scrubSealedRow.holds Try.pinned (OpenSpec.ofChange scrubSealedWrong)

/-- 'erewhilelaw16.SuperScrub': WHATEVER THE INPUT: true; the input reads as it did. -/
def superScrubSpec : ChangeSpec := { name := "superScrub", fn := fun _ => fun
  | [d1, d2, d3, d4] => { results := [.lit (.bool true)], args := [d1, d2, d3, d4] }
  | _ => none }
def superScrubRow : OpenClaim := { program := "ytoaalclbplgegaa", sum := "d0236829db1b72a0bb3e0317f9a61ad1ea9b532894c9ce548e97973e441c68f9", func := "erewhile/erewhilelaw16.SuperScrub", spec := "superScrub", unfollowed := true, recurses := true, apart := false }
def SuperScrubSaid : Prop := superScrubRow.holds Try.pinned (OpenSpec.ofChange superScrubSpec)

/-- ITS FALSE NEIGHBOUR: 'it returns false'. Refute it at one input. -/
def superScrubWrong : ChangeSpec := { name := "superScrub", fn := fun _ => fun
  | [d1, d2, d3, d4] => { results := [.lit (.bool false)], args := [d1, d2, d3, d4] }
  | _ => none }
def SuperScrubWrongFalsely : Prop := superScrubRow.holds Try.pinned (OpenSpec.ofChange superScrubWrong)

/- THE SECOND FORM. 'bulk': how many values and letters a reading holds, each counted each time it is reached (what is shared counts as often as it is met; a slice's spare places count too). A statement '..UptoSaid' is the law's where the arguments, and the package variables that the reading takes, are together of bulk at most 1048576: NARROWER than '..Said'. Prove '..Said' where nothing that the law and all that it calls make is longer than what came in: it says more and counts as full. Else prove '..UptoSaid'. A law counts once. -/
mutual
def uptoBulk {H : Type} : DataW H → Nat
  | .lit (.string bytes) => bytes.length + 1
  | .lit _ => 1
  | .nil => 1
  | .ptr d => uptoBulk d + 1
  | .slice elems spare => uptoBulkAll elems + uptoBulkAll spare + 1
  | .agg parts => uptoBulkAll parts + 1
  | .iface _ d => uptoBulk d + 1
  | .map entries => uptoBulkEntries entries + 1
  | .held _ => 1
def uptoBulkAll {H : Type} : List (DataW H) → Nat
  | [] => 0
  | d :: r => uptoBulk d + uptoBulkAll r
def uptoBulkEntries {H : Type} : List (Lit × DataW H) → Nat
  | [] => 0
  | x :: r => uptoBulkEntry x + uptoBulkEntries r
def uptoBulkEntry {H : Type} : Lit × DataW H → Nat
  | (.string bytes, d) => bytes.length + uptoBulk d + 1
  | (_, d) => uptoBulk d + 1
 end
def uptoSmall : (H : Type) → List (DataW H) → Bool := fun _ ds => decide (uptoBulkAll ds ≤ 1048576)
def OpenSpec.upto (s : _root_.Go.ChangeSpec) : _root_.Go.OpenSpec := { _root_.Go.OpenSpec.ofChange s with cond := some uptoSmall }

/-- 'erewhilelaw10.ScrubAll', WHERE WHAT IT READS IS OF BULK AT MOST 1048576: true; the input reads as it did. -/
def scrubAllUptoRow : OpenClaim := { program := "ytoaalclbplgegaa", sum := "d0236829db1b72a0bb3e0317f9a61ad1ea9b532894c9ce548e97973e441c68f9", func := "erewhile/erewhilelaw10.ScrubAll", spec := "scrubAll", unfollowed := true, recurses := true, apart := false, narrowed := true }
def ScrubAllUptoSaid : Prop := scrubAllUptoRow.holds Try.pinned (OpenSpec.upto scrubAllSpec)

/-- 'erewhilelaw10.ScrubSteps', WHERE WHAT IT READS IS OF BULK AT MOST 1048576: true; the input reads as it did. -/
def scrubStepsUptoRow : OpenClaim := { program := "ytoaalclbplgegaa", sum := "d0236829db1b72a0bb3e0317f9a61ad1ea9b532894c9ce548e97973e441c68f9", func := "erewhile/erewhilelaw10.ScrubSteps", spec := "scrubSteps", unfollowed := true, recurses := true, apart := false, narrowed := true }
def ScrubStepsUptoSaid : Prop := scrubStepsUptoRow.holds Try.pinned (OpenSpec.upto scrubStepsSpec)

/-- 'erewhilelaw10.ScrubNone', WHERE WHAT IT READS IS OF BULK AT MOST 1048576: true; the input reads as it did. -/
def scrubNoneUptoRow : OpenClaim := { program := "ytoaalclbplgegaa", sum := "d0236829db1b72a0bb3e0317f9a61ad1ea9b532894c9ce548e97973e441c68f9", func := "erewhile/erewhilelaw10.ScrubNone", spec := "scrubNone", unfollowed := true, recurses := true, apart := false, narrowed := true }
def ScrubNoneUptoSaid : Prop := scrubNoneUptoRow.holds Try.pinned (OpenSpec.upto scrubNoneSpec)

/-- 'erewhilelaw10.ScrubDown', WHERE WHAT IT READS IS OF BULK AT MOST 1048576: true; the input reads as it did. -/
def scrubDownUptoRow : OpenClaim := { program := "ytoaalclbplgegaa", sum := "d0236829db1b72a0bb3e0317f9a61ad1ea9b532894c9ce548e97973e441c68f9", func := "erewhile/erewhilelaw10.ScrubDown", spec := "scrubDown", unfollowed := true, recurses := true, apart := false, narrowed := true }
def ScrubDownUptoSaid : Prop := scrubDownUptoRow.holds Try.pinned (OpenSpec.upto scrubDownSpec)

/-- 'erewhilelaw10.ScrubAgain', WHERE WHAT IT READS IS OF BULK AT MOST 1048576: true; the input reads as it did. -/
def scrubAgainUptoRow : OpenClaim := { program := "ytoaalclbplgegaa", sum := "d0236829db1b72a0bb3e0317f9a61ad1ea9b532894c9ce548e97973e441c68f9", func := "erewhile/erewhilelaw10.ScrubAgain", spec := "scrubAgain", unfollowed := true, recurses := true, apart := false, narrowed := true }
def ScrubAgainUptoSaid : Prop := scrubAgainUptoRow.holds Try.pinned (OpenSpec.upto scrubAgainSpec)

/-- 'erewhilelaw10.ScrubTurned', WHERE WHAT IT READS IS OF BULK AT MOST 1048576: true; the input reads as it did. -/
def scrubTurnedUptoRow : OpenClaim := { program := "ytoaalclbplgegaa", sum := "d0236829db1b72a0bb3e0317f9a61ad1ea9b532894c9ce548e97973e441c68f9", func := "erewhile/erewhilelaw10.ScrubTurned", spec := "scrubTurned", unfollowed := true, recurses := true, apart := false, narrowed := true }
def ScrubTurnedUptoSaid : Prop := scrubTurnedUptoRow.holds Try.pinned (OpenSpec.upto scrubTurnedSpec)

/-- 'erewhilelaw10.ScrubReads', WHERE WHAT IT READS IS OF BULK AT MOST 1048576: true; the input reads as it did. -/
def scrubReadsUptoRow : OpenClaim := { program := "ytoaalclbplgegaa", sum := "d0236829db1b72a0bb3e0317f9a61ad1ea9b532894c9ce548e97973e441c68f9", func := "erewhile/erewhilelaw10.ScrubReads", spec := "scrubReads", unfollowed := true, recurses := true, apart := false, narrowed := true }
def ScrubReadsUptoSaid : Prop := scrubReadsUptoRow.holds Try.pinned (OpenSpec.upto scrubReadsSpec)

/-- 'erewhilelaw10.ScrubStale', WHERE WHAT IT READS IS OF BULK AT MOST 1048576: true; the input reads as it did. -/
def scrubStaleUptoRow : OpenClaim := { program := "ytoaalclbplgegaa", sum := "d0236829db1b72a0bb3e0317f9a61ad1ea9b532894c9ce548e97973e441c68f9", func := "erewhile/erewhilelaw10.ScrubStale", spec := "scrubStale", unfollowed := true, recurses := true, apart := false, narrowed := true }
def ScrubStaleUptoSaid : Prop := scrubStaleUptoRow.holds Try.pinned (OpenSpec.upto scrubStaleSpec)

/-- 'erewhilelaw10.ScrubSealed', WHERE WHAT IT READS IS OF BULK AT MOST 1048576: true; the input reads as it did. -/
def scrubSealedUptoRow : OpenClaim := { program := "ytoaalclbplgegaa", sum := "d0236829db1b72a0bb3e0317f9a61ad1ea9b532894c9ce548e97973e441c68f9", func := "erewhile/erewhilelaw10.ScrubSealed", spec := "scrubSealed", unfollowed := true, recurses := true, apart := false, narrowed := true }
def ScrubSealedUptoSaid : Prop := scrubSealedUptoRow.holds Try.pinned (OpenSpec.upto scrubSealedSpec)

/-- 'erewhilelaw16.SuperScrub', WHERE WHAT IT READS IS OF BULK AT MOST 1048576: true; the input reads as it did. -/
def superScrubUptoRow : OpenClaim := { program := "ytoaalclbplgegaa", sum := "d0236829db1b72a0bb3e0317f9a61ad1ea9b532894c9ce548e97973e441c68f9", func := "erewhile/erewhilelaw16.SuperScrub", spec := "superScrub", unfollowed := true, recurses := true, apart := false, narrowed := true }
def SuperScrubUptoSaid : Prop := superScrubUptoRow.holds Try.pinned (OpenSpec.upto superScrubSpec)

end Rows
end Go.Proofs.Ytoaalclbplgegaa
