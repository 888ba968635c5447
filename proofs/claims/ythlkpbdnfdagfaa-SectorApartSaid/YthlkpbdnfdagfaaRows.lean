/-
  No cell of these rows narrows 'for every input' (looked for: loops, veiled, ifaces, maps, wideKeys, modest, calm, conditions, laid).
  DERIVED. THE GIVEN ROWS OF THIS SEAT. 7 by the template 'for every input the law returns true; each argument reads behind the call as it read before'; 0 by the template 'total and deterministic' (their statements: YthlkpbdnfdagfaaTotals.lean).
  GIVEN WITH THE SEED: the statements are not yours to turn. If you find one false, say at which input.
  Laid BY PROGRAM, IN A SANDBOX (cutbox-rows.mjs): the forced cells as the released guide's own fill.sh prints them over the translation c9dc2dc8a3f130be… (all of the seat's roots in one cut). By AI agents, Wed Nov 11 2026. No macro, syntax, notation, axiom, sorry.
-/
import Derived.Test.YthlkpbdnfdagfaaChecked
import GoSem.Claim
import GoSem.ClaimJoined
import GoSem.ClaimMapViews
import Derived.JoinedTies
import Derived.KernelRfl
namespace Go.Proofs.Ythlkpbdnfdagfaa
/- THE CELL 'sum', in the pinned program and in every row, IS THE sha256 OF THE DUMP (.gsa) THAT YthlkpbdnfdagfaaProg.lean LOADS. Nothing in Lean hashes anything: it is a label: what it is worth is what the hold of that sum in a sandbox is worth. -/
noncomputable def Try.pinned : Pinned := { name := "ythlkpbdnfdagfaa", sum := "c9dc2dc8a3f130be043adbb6a407faf580f4cb06eaf41df1dfffe097461c1858", checked := Try.checked }
namespace Rows
def none {H : Type} : Left H := { results := [], args := [] }

/-- 'erewhilelaw11.SectorPacks': WHATEVER THE INPUT: true; the input reads as it did. -/
def sectorPacksSpec : ChangeSpec := { name := "sectorPacks", fn := fun _ => fun
  | [d1, d2, d3] => { results := [.lit (.bool true)], args := [d1, d2, d3] }
  | _ => none }
def sectorPacksRow : OpenClaim := { program := "ythlkpbdnfdagfaa", sum := "c9dc2dc8a3f130be043adbb6a407faf580f4cb06eaf41df1dfffe097461c1858", func := "erewhile/erewhilelaw11.SectorPacks", spec := "sectorPacks", unfollowed := true, recurses := true, apart := false }
def SectorPacksSaid : Prop := sectorPacksRow.holds Try.pinned (OpenSpec.ofChange sectorPacksSpec)

/-- ITS FALSE NEIGHBOUR: 'it returns false'. Refute it at one input. -/
def sectorPacksWrong : ChangeSpec := { name := "sectorPacks", fn := fun _ => fun
  | [d1, d2, d3] => { results := [.lit (.bool false)], args := [d1, d2, d3] }
  | _ => none }
def SectorPacksWrongFalsely : Prop := sectorPacksRow.holds Try.pinned (OpenSpec.ofChange sectorPacksWrong)

/-- 'erewhilelaw11.SectorUnpacks': WHATEVER THE INPUT: true; the input reads as it did. -/
def sectorUnpacksSpec : ChangeSpec := { name := "sectorUnpacks", fn := fun _ => fun
  | [d1, d2] => { results := [.lit (.bool true)], args := [d1, d2] }
  | _ => none }
def sectorUnpacksRow : OpenClaim := { program := "ythlkpbdnfdagfaa", sum := "c9dc2dc8a3f130be043adbb6a407faf580f4cb06eaf41df1dfffe097461c1858", func := "erewhile/erewhilelaw11.SectorUnpacks", spec := "sectorUnpacks", unfollowed := true, recurses := true, apart := false }
def SectorUnpacksSaid : Prop := sectorUnpacksRow.holds Try.pinned (OpenSpec.ofChange sectorUnpacksSpec)

/-- ITS FALSE NEIGHBOUR: 'it returns false'. Refute it at one input. -/
def sectorUnpacksWrong : ChangeSpec := { name := "sectorUnpacks", fn := fun _ => fun
  | [d1, d2] => { results := [.lit (.bool false)], args := [d1, d2] }
  | _ => none }
def SectorUnpacksWrongFalsely : Prop := sectorUnpacksRow.holds Try.pinned (OpenSpec.ofChange sectorUnpacksWrong)

/-- 'erewhilelaw11.SectorBack': WHATEVER THE INPUT: true; the input reads as it did. -/
def sectorBackSpec : ChangeSpec := { name := "sectorBack", fn := fun _ => fun
  | [d1, d2, d3] => { results := [.lit (.bool true)], args := [d1, d2, d3] }
  | _ => none }
def sectorBackRow : OpenClaim := { program := "ythlkpbdnfdagfaa", sum := "c9dc2dc8a3f130be043adbb6a407faf580f4cb06eaf41df1dfffe097461c1858", func := "erewhile/erewhilelaw11.SectorBack", spec := "sectorBack", unfollowed := true, recurses := true, apart := false }
def SectorBackSaid : Prop := sectorBackRow.holds Try.pinned (OpenSpec.ofChange sectorBackSpec)

/-- ITS FALSE NEIGHBOUR: 'it returns false'. Refute it at one input. -/
def sectorBackWrong : ChangeSpec := { name := "sectorBack", fn := fun _ => fun
  | [d1, d2, d3] => { results := [.lit (.bool false)], args := [d1, d2, d3] }
  | _ => none }
def SectorBackWrongFalsely : Prop := sectorBackRow.holds Try.pinned (OpenSpec.ofChange sectorBackWrong)

/-- 'erewhilelaw11.SectorSpoilt': WHATEVER THE INPUT: true; the input reads as it did. -/
def sectorSpoiltSpec : ChangeSpec := { name := "sectorSpoilt", fn := fun _ => fun
  | [d1, d2, d3, d4, d5, d6] => { results := [.lit (.bool true)], args := [d1, d2, d3, d4, d5, d6] }
  | _ => none }
def sectorSpoiltRow : OpenClaim := { program := "ythlkpbdnfdagfaa", sum := "c9dc2dc8a3f130be043adbb6a407faf580f4cb06eaf41df1dfffe097461c1858", func := "erewhile/erewhilelaw11.SectorSpoilt", spec := "sectorSpoilt", unfollowed := true, recurses := true, apart := false }
def SectorSpoiltSaid : Prop := sectorSpoiltRow.holds Try.pinned (OpenSpec.ofChange sectorSpoiltSpec)

/-- ITS FALSE NEIGHBOUR: 'it returns false'. Refute it at one input. -/
def sectorSpoiltWrong : ChangeSpec := { name := "sectorSpoilt", fn := fun _ => fun
  | [d1, d2, d3, d4, d5, d6] => { results := [.lit (.bool false)], args := [d1, d2, d3, d4, d5, d6] }
  | _ => none }
def SectorSpoiltWrongFalsely : Prop := sectorSpoiltRow.holds Try.pinned (OpenSpec.ofChange sectorSpoiltWrong)

/-- 'erewhilelaw11.SectorApart': WHATEVER THE INPUT: true; the input reads as it did. -/
def sectorApartSpec : ChangeSpec := { name := "sectorApart", fn := fun _ => fun
  | [d1, d2, d3, d4] => { results := [.lit (.bool true)], args := [d1, d2, d3, d4] }
  | _ => none }
def sectorApartRow : OpenClaim := { program := "ythlkpbdnfdagfaa", sum := "c9dc2dc8a3f130be043adbb6a407faf580f4cb06eaf41df1dfffe097461c1858", func := "erewhile/erewhilelaw11.SectorApart", spec := "sectorApart", unfollowed := true, recurses := true, apart := false }
def SectorApartSaid : Prop := sectorApartRow.holds Try.pinned (OpenSpec.ofChange sectorApartSpec)

/-- ITS FALSE NEIGHBOUR: 'it returns false'. Refute it at one input. -/
def sectorApartWrong : ChangeSpec := { name := "sectorApart", fn := fun _ => fun
  | [d1, d2, d3, d4] => { results := [.lit (.bool false)], args := [d1, d2, d3, d4] }
  | _ => none }
def SectorApartWrongFalsely : Prop := sectorApartRow.holds Try.pinned (OpenSpec.ofChange sectorApartWrong)

/-- 'erewhilelaw11.SectorGood': WHATEVER THE INPUT: true; the input reads as it did. -/
def sectorGoodSpec : ChangeSpec := { name := "sectorGood", fn := fun _ => fun
  | [d1, d2, d3] => { results := [.lit (.bool true)], args := [d1, d2, d3] }
  | _ => none }
def sectorGoodRow : OpenClaim := { program := "ythlkpbdnfdagfaa", sum := "c9dc2dc8a3f130be043adbb6a407faf580f4cb06eaf41df1dfffe097461c1858", func := "erewhile/erewhilelaw11.SectorGood", spec := "sectorGood", unfollowed := true, recurses := true, apart := false }
def SectorGoodSaid : Prop := sectorGoodRow.holds Try.pinned (OpenSpec.ofChange sectorGoodSpec)

/-- ITS FALSE NEIGHBOUR: 'it returns false'. Refute it at one input. -/
def sectorGoodWrong : ChangeSpec := { name := "sectorGood", fn := fun _ => fun
  | [d1, d2, d3] => { results := [.lit (.bool false)], args := [d1, d2, d3] }
  | _ => none }
def SectorGoodWrongFalsely : Prop := sectorGoodRow.holds Try.pinned (OpenSpec.ofChange sectorGoodWrong)

/-- 'erewhilelaw11.SectorMirror': WHATEVER THE INPUT: true; the input reads as it did. -/
def sectorMirrorSpec : ChangeSpec := { name := "sectorMirror", fn := fun _ => fun
  | [d1, d2, d3, d4, d5] => { results := [.lit (.bool true)], args := [d1, d2, d3, d4, d5] }
  | _ => none }
def sectorMirrorRow : OpenClaim := { program := "ythlkpbdnfdagfaa", sum := "c9dc2dc8a3f130be043adbb6a407faf580f4cb06eaf41df1dfffe097461c1858", func := "erewhile/erewhilelaw11.SectorMirror", spec := "sectorMirror", unfollowed := true, recurses := true, apart := false }
def SectorMirrorSaid : Prop := sectorMirrorRow.holds Try.pinned (OpenSpec.ofChange sectorMirrorSpec)

/-- ITS FALSE NEIGHBOUR: 'it returns false'. Refute it at one input. -/
def sectorMirrorWrong : ChangeSpec := { name := "sectorMirror", fn := fun _ => fun
  | [d1, d2, d3, d4, d5] => { results := [.lit (.bool false)], args := [d1, d2, d3, d4, d5] }
  | _ => none }
def SectorMirrorWrongFalsely : Prop := sectorMirrorRow.holds Try.pinned (OpenSpec.ofChange sectorMirrorWrong)

/- THE SECOND FORM. 'bulk': how many values and letters a reading holds, each counted each time it is reached (what is shared counts as often as it is met; a slice's spare places count too). A statement '..UptoSaid' is the law's where the arguments, and the package variables that the reading takes, are together of bulk at most 1048576: NARROWER than '..Said'. Prove '..Said' where nothing that the law and all that it calls make is longer than what came in: it says more and counts as full. Else prove '..UptoSaid'. A law counts once. -/
mutual
def uptoBulk {H : Type} : DataW H → Nat
  | .lit (.string bytes) => bytes.length + 1
  | .lit _ => 1
  | .nil => 1
  | .ptr d => uptoBulk d + 1
  | .slice elems spare => uptoBulkAll elems + uptoBulkAll spare + 1
  | .agg parts => uptoBulkAll parts + 1
  | .iface _ d => uptoBulk d + 1
  | .map entries => uptoBulkEntries entries + 1
  | .held _ => 1
def uptoBulkAll {H : Type} : List (DataW H) → Nat
  | [] => 0
  | d :: r => uptoBulk d + uptoBulkAll r
def uptoBulkEntries {H : Type} : List (Lit × DataW H) → Nat
  | [] => 0
  | x :: r => uptoBulkEntry x + uptoBulkEntries r
def uptoBulkEntry {H : Type} : Lit × DataW H → Nat
  | (.string bytes, d) => bytes.length + uptoBulk d + 1
  | (_, d) => uptoBulk d + 1
 end
def uptoSmall : (H : Type) → List (DataW H) → Bool := fun _ ds => decide (uptoBulkAll ds ≤ 1048576)
def OpenSpec.upto (s : _root_.Go.ChangeSpec) : _root_.Go.OpenSpec := { _root_.Go.OpenSpec.ofChange s with cond := some uptoSmall }

/-- 'erewhilelaw11.SectorPacks', WHERE WHAT IT READS IS OF BULK AT MOST 1048576: true; the input reads as it did. -/
def sectorPacksUptoRow : OpenClaim := { program := "ythlkpbdnfdagfaa", sum := "c9dc2dc8a3f130be043adbb6a407faf580f4cb06eaf41df1dfffe097461c1858", func := "erewhile/erewhilelaw11.SectorPacks", spec := "sectorPacks", unfollowed := true, recurses := true, apart := false, narrowed := true }
def SectorPacksUptoSaid : Prop := sectorPacksUptoRow.holds Try.pinned (OpenSpec.upto sectorPacksSpec)

/-- 'erewhilelaw11.SectorUnpacks', WHERE WHAT IT READS IS OF BULK AT MOST 1048576: true; the input reads as it did. -/
def sectorUnpacksUptoRow : OpenClaim := { program := "ythlkpbdnfdagfaa", sum := "c9dc2dc8a3f130be043adbb6a407faf580f4cb06eaf41df1dfffe097461c1858", func := "erewhile/erewhilelaw11.SectorUnpacks", spec := "sectorUnpacks", unfollowed := true, recurses := true, apart := false, narrowed := true }
def SectorUnpacksUptoSaid : Prop := sectorUnpacksUptoRow.holds Try.pinned (OpenSpec.upto sectorUnpacksSpec)

/-- 'erewhilelaw11.SectorBack', WHERE WHAT IT READS IS OF BULK AT MOST 1048576: true; the input reads as it did. -/
def sectorBackUptoRow : OpenClaim := { program := "ythlkpbdnfdagfaa", sum := "c9dc2dc8a3f130be043adbb6a407faf580f4cb06eaf41df1dfffe097461c1858", func := "erewhile/erewhilelaw11.SectorBack", spec := "sectorBack", unfollowed := true, recurses := true, apart := false, narrowed := true }
def SectorBackUptoSaid : Prop := sectorBackUptoRow.holds Try.pinned (OpenSpec.upto sectorBackSpec)

/-- 'erewhilelaw11.SectorSpoilt', WHERE WHAT IT READS IS OF BULK AT MOST 1048576: true; the input reads as it did. -/
def sectorSpoiltUptoRow : OpenClaim := { program := "ythlkpbdnfdagfaa", sum := "c9dc2dc8a3f130be043adbb6a407faf580f4cb06eaf41df1dfffe097461c1858", func := "erewhile/erewhilelaw11.SectorSpoilt", spec := "sectorSpoilt", unfollowed := true, recurses := true, apart := false, narrowed := true }
def SectorSpoiltUptoSaid : Prop := sectorSpoiltUptoRow.holds Try.pinned (OpenSpec.upto sectorSpoiltSpec)

/-- 'erewhilelaw11.SectorApart', WHERE WHAT IT READS IS OF BULK AT MOST 1048576: true; the input reads as it did. -/
def sectorApartUptoRow : OpenClaim := { program := "ythlkpbdnfdagfaa", sum := "c9dc2dc8a3f130be043adbb6a407faf580f4cb06eaf41df1dfffe097461c1858", func := "erewhile/erewhilelaw11.SectorApart", spec := "sectorApart", unfollowed := true, recurses := true, apart := false, narrowed := true }
def SectorApartUptoSaid : Prop := sectorApartUptoRow.holds Try.pinned (OpenSpec.upto sectorApartSpec)

/-- 'erewhilelaw11.SectorGood', WHERE WHAT IT READS IS OF BULK AT MOST 1048576: true; the input reads as it did. -/
def sectorGoodUptoRow : OpenClaim := { program := "ythlkpbdnfdagfaa", sum := "c9dc2dc8a3f130be043adbb6a407faf580f4cb06eaf41df1dfffe097461c1858", func := "erewhile/erewhilelaw11.SectorGood", spec := "sectorGood", unfollowed := true, recurses := true, apart := false, narrowed := true }
def SectorGoodUptoSaid : Prop := sectorGoodUptoRow.holds Try.pinned (OpenSpec.upto sectorGoodSpec)

/-- 'erewhilelaw11.SectorMirror', WHERE WHAT IT READS IS OF BULK AT MOST 1048576: true; the input reads as it did. -/
def sectorMirrorUptoRow : OpenClaim := { program := "ythlkpbdnfdagfaa", sum := "c9dc2dc8a3f130be043adbb6a407faf580f4cb06eaf41df1dfffe097461c1858", func := "erewhile/erewhilelaw11.SectorMirror", spec := "sectorMirror", unfollowed := true, recurses := true, apart := false, narrowed := true }
def SectorMirrorUptoSaid : Prop := sectorMirrorUptoRow.holds Try.pinned (OpenSpec.upto sectorMirrorSpec)

end Rows
end Go.Proofs.Ythlkpbdnfdagfaa
