/-
  No cell of these rows narrows 'for every input' (looked for: loops, veiled, ifaces, maps, wideKeys, modest, calm, conditions, laid).
  DERIVED. THE GIVEN ROWS OF THIS SEAT. 16 by the template 'for every input the law returns true; each argument reads behind the call as it read before'; 0 by the template 'total and deterministic' (their statements: YtegigiecamjobaaTotals.lean).
  GIVEN WITH THE SEED: the statements are not yours to turn. If you find one false, say at which input.
  Laid BY PROGRAM, IN A SANDBOX (cutbox-rows.mjs): the forced cells as the released guide's own fill.sh prints them over the translation a7551db1b479ff7a… (all of the seat's roots in one cut). By AI agents, Wed Nov 11 2026. No macro, syntax, notation, axiom, sorry.
-/
import Derived.Test.YtegigiecamjobaaChecked
import GoSem.Claim
import GoSem.ClaimJoined
import GoSem.ClaimMapViews
import Derived.JoinedTies
import Derived.KernelRfl
namespace Go.Proofs.Ytegigiecamjobaa
/- THE CELL 'sum', in the pinned program and in every row, IS THE sha256 OF THE DUMP (.gsa) THAT YtegigiecamjobaaProg.lean LOADS. Nothing in Lean hashes anything: it is a label: what it is worth is what the hold of that sum in a sandbox is worth. -/
noncomputable def Try.pinned : Pinned := { name := "ytegigiecamjobaa", sum := "a7551db1b479ff7a03a1f185b15d885cc6559f7febd22fac32bc0226adf39729", checked := Try.checked }
namespace Rows
def none {H : Type} : Left H := { results := [], args := [] }

/-- 'partkeep.SnapEnds': WHATEVER THE INPUT: true; the input reads as it did. -/
def snapEndsSpec : ChangeSpec := { name := "snapEnds", fn := fun _ => fun
  | [d1, d2, d3] => { results := [.lit (.bool true)], args := [d1, d2, d3] }
  | _ => none }
def snapEndsRow : OpenClaim := { program := "ytegigiecamjobaa", sum := "a7551db1b479ff7a03a1f185b15d885cc6559f7febd22fac32bc0226adf39729", func := "partsong/partkeep.SnapEnds", spec := "snapEnds", unfollowed := true, recurses := true, apart := false }
def SnapEndsSaid : Prop := snapEndsRow.holds Try.pinned (OpenSpec.ofChange snapEndsSpec)

/-- ITS FALSE NEIGHBOUR: 'it returns false'. Refute it at one input. -/
def snapEndsWrong : ChangeSpec := { name := "snapEnds", fn := fun _ => fun
  | [d1, d2, d3] => { results := [.lit (.bool false)], args := [d1, d2, d3] }
  | _ => none }
def SnapEndsWrongFalsely : Prop := snapEndsRow.holds Try.pinned (OpenSpec.ofChange snapEndsWrong)

/-- 'partkeep.SynodKeeps': WHATEVER THE INPUT: true; the input reads as it did. -/
def synodKeepsSpec : ChangeSpec := { name := "synodKeeps", fn := fun _ => fun
  | [d1, d2] => { results := [.lit (.bool true)], args := [d1, d2] }
  | _ => none }
def synodKeepsRow : OpenClaim := { program := "ytegigiecamjobaa", sum := "a7551db1b479ff7a03a1f185b15d885cc6559f7febd22fac32bc0226adf39729", func := "partsong/partkeep.SynodKeeps", spec := "synodKeeps", unfollowed := true, recurses := true, apart := false }
def SynodKeepsSaid : Prop := synodKeepsRow.holds Try.pinned (OpenSpec.ofChange synodKeepsSpec)

/-- ITS FALSE NEIGHBOUR: 'it returns false'. Refute it at one input. -/
def synodKeepsWrong : ChangeSpec := { name := "synodKeeps", fn := fun _ => fun
  | [d1, d2] => { results := [.lit (.bool false)], args := [d1, d2] }
  | _ => none }
def SynodKeepsWrongFalsely : Prop := synodKeepsRow.holds Try.pinned (OpenSpec.ofChange synodKeepsWrong)

/-- 'partkeep.FlushKeeps': WHATEVER THE INPUT: true; the input reads as it did. -/
def flushKeepsSpec : ChangeSpec := { name := "flushKeeps", fn := fun _ => fun
  | [d1, d2, d3] => { results := [.lit (.bool true)], args := [d1, d2, d3] }
  | _ => none }
def flushKeepsRow : OpenClaim := { program := "ytegigiecamjobaa", sum := "a7551db1b479ff7a03a1f185b15d885cc6559f7febd22fac32bc0226adf39729", func := "partsong/partkeep.FlushKeeps", spec := "flushKeeps", apart := false }
def FlushKeepsSaid : Prop := flushKeepsRow.holds Try.pinned (OpenSpec.ofChange flushKeepsSpec)

/-- ITS FALSE NEIGHBOUR: 'it returns false'. Refute it at one input. -/
def flushKeepsWrong : ChangeSpec := { name := "flushKeeps", fn := fun _ => fun
  | [d1, d2, d3] => { results := [.lit (.bool false)], args := [d1, d2, d3] }
  | _ => none }
def FlushKeepsWrongFalsely : Prop := flushKeepsRow.holds Try.pinned (OpenSpec.ofChange flushKeepsWrong)

/-- 'partkeep.SnapSum': WHATEVER THE INPUT: true; the input reads as it did. -/
def snapSumSpec : ChangeSpec := { name := "snapSum", fn := fun _ => fun
  | [d1, d2] => { results := [.lit (.bool true)], args := [d1, d2] }
  | _ => none }
def snapSumRow : OpenClaim := { program := "ytegigiecamjobaa", sum := "a7551db1b479ff7a03a1f185b15d885cc6559f7febd22fac32bc0226adf39729", func := "partsong/partkeep.SnapSum", spec := "snapSum", unfollowed := true, recurses := true, apart := false }
def SnapSumSaid : Prop := snapSumRow.holds Try.pinned (OpenSpec.ofChange snapSumSpec)

/-- ITS FALSE NEIGHBOUR: 'it returns false'. Refute it at one input. -/
def snapSumWrong : ChangeSpec := { name := "snapSum", fn := fun _ => fun
  | [d1, d2] => { results := [.lit (.bool false)], args := [d1, d2] }
  | _ => none }
def SnapSumWrongFalsely : Prop := snapSumRow.holds Try.pinned (OpenSpec.ofChange snapSumWrong)

/-- 'partkeep.MatchCover': WHATEVER THE INPUT: true; the input reads as it did. -/
def matchCoverSpec : ChangeSpec := { name := "matchCover", fn := fun _ => fun
  | [d1, d2, d3] => { results := [.lit (.bool true)], args := [d1, d2, d3] }
  | _ => none }
def matchCoverRow : OpenClaim := { program := "ytegigiecamjobaa", sum := "a7551db1b479ff7a03a1f185b15d885cc6559f7febd22fac32bc0226adf39729", func := "partsong/partkeep.MatchCover", spec := "matchCover", unfollowed := true, recurses := true, apart := false }
def MatchCoverSaid : Prop := matchCoverRow.holds Try.pinned (OpenSpec.ofChange matchCoverSpec)

/-- ITS FALSE NEIGHBOUR: 'it returns false'. Refute it at one input. -/
def matchCoverWrong : ChangeSpec := { name := "matchCover", fn := fun _ => fun
  | [d1, d2, d3] => { results := [.lit (.bool false)], args := [d1, d2, d3] }
  | _ => none }
def MatchCoverWrongFalsely : Prop := matchCoverRow.holds Try.pinned (OpenSpec.ofChange matchCoverWrong)

/-- 'partkeep.SnapFront': WHATEVER THE INPUT: true; the input reads as it did. -/
def snapFrontSpec : ChangeSpec := { name := "snapFront", fn := fun _ => fun
  | [d1, d2, d3] => { results := [.lit (.bool true)], args := [d1, d2, d3] }
  | _ => none }
def snapFrontRow : OpenClaim := { program := "ytegigiecamjobaa", sum := "a7551db1b479ff7a03a1f185b15d885cc6559f7febd22fac32bc0226adf39729", func := "partsong/partkeep.SnapFront", spec := "snapFront", unfollowed := true, recurses := true, apart := false }
def SnapFrontSaid : Prop := snapFrontRow.holds Try.pinned (OpenSpec.ofChange snapFrontSpec)

/-- ITS FALSE NEIGHBOUR: 'it returns false'. Refute it at one input. -/
def snapFrontWrong : ChangeSpec := { name := "snapFront", fn := fun _ => fun
  | [d1, d2, d3] => { results := [.lit (.bool false)], args := [d1, d2, d3] }
  | _ => none }
def SnapFrontWrongFalsely : Prop := snapFrontRow.holds Try.pinned (OpenSpec.ofChange snapFrontWrong)

/-- 'partkeep.LaneTwice': WHATEVER THE INPUT: true; the input reads as it did. -/
def laneTwiceSpec : ChangeSpec := { name := "laneTwice", fn := fun _ => fun
  | [d1, d2] => { results := [.lit (.bool true)], args := [d1, d2] }
  | _ => none }
def laneTwiceRow : OpenClaim := { program := "ytegigiecamjobaa", sum := "a7551db1b479ff7a03a1f185b15d885cc6559f7febd22fac32bc0226adf39729", func := "partsong/partkeep.LaneTwice", spec := "laneTwice", inPlace := ["slices.overlaps[partsong/api.Parcel]"], unfollowed := true, recurses := true, apart := false }
def LaneTwiceSaid : Prop := laneTwiceRow.holds Try.pinned (OpenSpec.ofChange laneTwiceSpec)

/-- ITS FALSE NEIGHBOUR: 'it returns false'. Refute it at one input. -/
def laneTwiceWrong : ChangeSpec := { name := "laneTwice", fn := fun _ => fun
  | [d1, d2] => { results := [.lit (.bool false)], args := [d1, d2] }
  | _ => none }
def LaneTwiceWrongFalsely : Prop := laneTwiceRow.holds Try.pinned (OpenSpec.ofChange laneTwiceWrong)

/-- 'partkeep.MatchHall': WHATEVER THE INPUT: true; the input reads as it did. -/
def matchHallSpec : ChangeSpec := { name := "matchHall", fn := fun _ => fun
  | [d1, d2, d3, d4] => { results := [.lit (.bool true)], args := [d1, d2, d3, d4] }
  | _ => none }
def matchHallRow : OpenClaim := { program := "ytegigiecamjobaa", sum := "a7551db1b479ff7a03a1f185b15d885cc6559f7febd22fac32bc0226adf39729", func := "partsong/partkeep.MatchHall", spec := "matchHall", unfollowed := true, recurses := true, apart := false }
def MatchHallSaid : Prop := matchHallRow.holds Try.pinned (OpenSpec.ofChange matchHallSpec)

/-- ITS FALSE NEIGHBOUR: 'it returns false'. Refute it at one input. -/
def matchHallWrong : ChangeSpec := { name := "matchHall", fn := fun _ => fun
  | [d1, d2, d3, d4] => { results := [.lit (.bool false)], args := [d1, d2, d3, d4] }
  | _ => none }
def MatchHallWrongFalsely : Prop := matchHallRow.holds Try.pinned (OpenSpec.ofChange matchHallWrong)

/-- 'partkeep.LaneOrder': WHATEVER THE INPUT: true; the input reads as it did. -/
def laneOrderSpec : ChangeSpec := { name := "laneOrder", fn := fun _ => fun
  | [d] => { results := [.lit (.bool true)], args := [d] }
  | _ => none }
def laneOrderRow : OpenClaim := { program := "ytegigiecamjobaa", sum := "a7551db1b479ff7a03a1f185b15d885cc6559f7febd22fac32bc0226adf39729", func := "partsong/partkeep.LaneOrder", spec := "laneOrder", inPlace := ["slices.overlaps[partsong/api.Parcel]"], unfollowed := true, recurses := true, apart := false }
def LaneOrderSaid : Prop := laneOrderRow.holds Try.pinned (OpenSpec.ofChange laneOrderSpec)

/-- ITS FALSE NEIGHBOUR: 'it returns false'. Refute it at one input. -/
def laneOrderWrong : ChangeSpec := { name := "laneOrder", fn := fun _ => fun
  | [d] => { results := [.lit (.bool false)], args := [d] }
  | _ => none }
def LaneOrderWrongFalsely : Prop := laneOrderRow.holds Try.pinned (OpenSpec.ofChange laneOrderWrong)

/-- 'partkeep.LaneWhole': WHATEVER THE INPUT: true; the input reads as it did. -/
def laneWholeSpec : ChangeSpec := { name := "laneWhole", fn := fun _ => fun
  | [d] => { results := [.lit (.bool true)], args := [d] }
  | _ => none }
def laneWholeRow : OpenClaim := { program := "ytegigiecamjobaa", sum := "a7551db1b479ff7a03a1f185b15d885cc6559f7febd22fac32bc0226adf39729", func := "partsong/partkeep.LaneWhole", spec := "laneWhole", inPlace := ["slices.overlaps[partsong/api.Parcel]"], unfollowed := true, recurses := true, apart := false }
def LaneWholeSaid : Prop := laneWholeRow.holds Try.pinned (OpenSpec.ofChange laneWholeSpec)

/-- ITS FALSE NEIGHBOUR: 'it returns false'. Refute it at one input. -/
def laneWholeWrong : ChangeSpec := { name := "laneWhole", fn := fun _ => fun
  | [d] => { results := [.lit (.bool false)], args := [d] }
  | _ => none }
def LaneWholeWrongFalsely : Prop := laneWholeRow.holds Try.pinned (OpenSpec.ofChange laneWholeWrong)

/-- 'partkeep.SynodOne': WHATEVER THE INPUT: true; the input reads as it did. -/
def synodOneSpec : ChangeSpec := { name := "synodOne", fn := fun _ => fun
  | [d1, d2] => { results := [.lit (.bool true)], args := [d1, d2] }
  | _ => none }
def synodOneRow : OpenClaim := { program := "ytegigiecamjobaa", sum := "a7551db1b479ff7a03a1f185b15d885cc6559f7febd22fac32bc0226adf39729", func := "partsong/partkeep.SynodOne", spec := "synodOne", unfollowed := true, recurses := true, apart := false }
def SynodOneSaid : Prop := synodOneRow.holds Try.pinned (OpenSpec.ofChange synodOneSpec)

/-- ITS FALSE NEIGHBOUR: 'it returns false'. Refute it at one input. -/
def synodOneWrong : ChangeSpec := { name := "synodOne", fn := fun _ => fun
  | [d1, d2] => { results := [.lit (.bool false)], args := [d1, d2] }
  | _ => none }
def SynodOneWrongFalsely : Prop := synodOneRow.holds Try.pinned (OpenSpec.ofChange synodOneWrong)

/-- 'partkeep.FlushSame': WHATEVER THE INPUT: true; the input reads as it did. -/
def flushSameSpec : ChangeSpec := { name := "flushSame", fn := fun _ => fun
  | [d1, d2] => { results := [.lit (.bool true)], args := [d1, d2] }
  | _ => none }
def flushSameRow : OpenClaim := { program := "ytegigiecamjobaa", sum := "a7551db1b479ff7a03a1f185b15d885cc6559f7febd22fac32bc0226adf39729", func := "partsong/partkeep.FlushSame", spec := "flushSame", recurses := true, apart := false }
def FlushSameSaid : Prop := flushSameRow.holds Try.pinned (OpenSpec.ofChange flushSameSpec)

/-- ITS FALSE NEIGHBOUR: 'it returns false'. Refute it at one input. -/
def flushSameWrong : ChangeSpec := { name := "flushSame", fn := fun _ => fun
  | [d1, d2] => { results := [.lit (.bool false)], args := [d1, d2] }
  | _ => none }
def FlushSameWrongFalsely : Prop := flushSameRow.holds Try.pinned (OpenSpec.ofChange flushSameWrong)

/-- 'partkeep.SynodStays': WHATEVER THE INPUT: true; the input reads as it did. -/
def synodStaysSpec : ChangeSpec := { name := "synodStays", fn := fun _ => fun
  | [d1, d2, d3] => { results := [.lit (.bool true)], args := [d1, d2, d3] }
  | _ => none }
def synodStaysRow : OpenClaim := { program := "ytegigiecamjobaa", sum := "a7551db1b479ff7a03a1f185b15d885cc6559f7febd22fac32bc0226adf39729", func := "partsong/partkeep.SynodStays", spec := "synodStays", unfollowed := true, recurses := true, apart := false }
def SynodStaysSaid : Prop := synodStaysRow.holds Try.pinned (OpenSpec.ofChange synodStaysSpec)

/-- ITS FALSE NEIGHBOUR: 'it returns false'. Refute it at one input. -/
def synodStaysWrong : ChangeSpec := { name := "synodStays", fn := fun _ => fun
  | [d1, d2, d3] => { results := [.lit (.bool false)], args := [d1, d2, d3] }
  | _ => none }
def SynodStaysWrongFalsely : Prop := synodStaysRow.holds Try.pinned (OpenSpec.ofChange synodStaysWrong)

/-- 'partkeep.SynodEnds': WHATEVER THE INPUT: true; the input reads as it did. -/
def synodEndsSpec : ChangeSpec := { name := "synodEnds", fn := fun _ => fun
  | [d1, d2, d3] => { results := [.lit (.bool true)], args := [d1, d2, d3] }
  | _ => none }
def synodEndsRow : OpenClaim := { program := "ytegigiecamjobaa", sum := "a7551db1b479ff7a03a1f185b15d885cc6559f7febd22fac32bc0226adf39729", func := "partsong/partkeep.SynodEnds", spec := "synodEnds", unfollowed := true, recurses := true, apart := false }
def SynodEndsSaid : Prop := synodEndsRow.holds Try.pinned (OpenSpec.ofChange synodEndsSpec)

/-- ITS FALSE NEIGHBOUR: 'it returns false'. Refute it at one input. -/
def synodEndsWrong : ChangeSpec := { name := "synodEnds", fn := fun _ => fun
  | [d1, d2, d3] => { results := [.lit (.bool false)], args := [d1, d2, d3] }
  | _ => none }
def SynodEndsWrongFalsely : Prop := synodEndsRow.holds Try.pinned (OpenSpec.ofChange synodEndsWrong)

/-- 'partkeep.PosetSquare': WHATEVER THE INPUT: true; the input reads as it did. -/
def posetSquareSpec : ChangeSpec := { name := "posetSquare", fn := fun _ => fun
  | [d] => { results := [.lit (.bool true)], args := [d] }
  | _ => none }
def posetSquareRow : OpenClaim := { program := "ytegigiecamjobaa", sum := "a7551db1b479ff7a03a1f185b15d885cc6559f7febd22fac32bc0226adf39729", func := "partsong/partkeep.PosetSquare", spec := "posetSquare", unfollowed := true, recurses := true, apart := false }
def PosetSquareSaid : Prop := posetSquareRow.holds Try.pinned (OpenSpec.ofChange posetSquareSpec)

/-- ITS FALSE NEIGHBOUR: 'it returns false'. Refute it at one input. -/
def posetSquareWrong : ChangeSpec := { name := "posetSquare", fn := fun _ => fun
  | [d] => { results := [.lit (.bool false)], args := [d] }
  | _ => none }
def PosetSquareWrongFalsely : Prop := posetSquareRow.holds Try.pinned (OpenSpec.ofChange posetSquareWrong)

/-- 'partkeep.PosetWide': WHATEVER THE INPUT: true; the input reads as it did. -/
def posetWideSpec : ChangeSpec := { name := "posetWide", fn := fun _ => fun
  | [d] => { results := [.lit (.bool true)], args := [d] }
  | _ => none }
def posetWideRow : OpenClaim := { program := "ytegigiecamjobaa", sum := "a7551db1b479ff7a03a1f185b15d885cc6559f7febd22fac32bc0226adf39729", func := "partsong/partkeep.PosetWide", spec := "posetWide", unfollowed := true, recurses := true, apart := false }
def PosetWideSaid : Prop := posetWideRow.holds Try.pinned (OpenSpec.ofChange posetWideSpec)

/-- ITS FALSE NEIGHBOUR: 'it returns false'. Refute it at one input. -/
def posetWideWrong : ChangeSpec := { name := "posetWide", fn := fun _ => fun
  | [d] => { results := [.lit (.bool false)], args := [d] }
  | _ => none }
def PosetWideWrongFalsely : Prop := posetWideRow.holds Try.pinned (OpenSpec.ofChange posetWideWrong)

/- THE SECOND FORM. 'bulk': how many values and letters a reading holds, each counted each time it is reached (what is shared counts as often as it is met; a slice's spare places count too). A statement '..UptoSaid' is the law's where the arguments, and the package variables that the reading takes, are together of bulk at most 1048576: NARROWER than '..Said'. Prove '..Said' where nothing that the law and all that it calls make is longer than what came in: it says more and counts as full. Else prove '..UptoSaid'. A law counts once. -/
mutual
def uptoBulk {H : Type} : DataW H → Nat
  | .lit (.string bytes) => bytes.length + 1
  | .lit _ => 1
  | .nil => 1
  | .ptr d => uptoBulk d + 1
  | .slice elems spare => uptoBulkAll elems + uptoBulkAll spare + 1
  | .agg parts => uptoBulkAll parts + 1
  | .iface _ d => uptoBulk d + 1
  | .map entries => uptoBulkEntries entries + 1
  | .held _ => 1
def uptoBulkAll {H : Type} : List (DataW H) → Nat
  | [] => 0
  | d :: r => uptoBulk d + uptoBulkAll r
def uptoBulkEntries {H : Type} : List (Lit × DataW H) → Nat
  | [] => 0
  | x :: r => uptoBulkEntry x + uptoBulkEntries r
def uptoBulkEntry {H : Type} : Lit × DataW H → Nat
  | (.string bytes, d) => bytes.length + uptoBulk d + 1
  | (_, d) => uptoBulk d + 1
 end
def uptoSmall : (H : Type) → List (DataW H) → Bool := fun _ ds => decide (uptoBulkAll ds ≤ 1048576)
def OpenSpec.upto (s : _root_.Go.ChangeSpec) : _root_.Go.OpenSpec := { _root_.Go.OpenSpec.ofChange s with cond := some uptoSmall }

/-- 'partkeep.SnapEnds', WHERE WHAT IT READS IS OF BULK AT MOST 1048576: true; the input reads as it did. -/
def snapEndsUptoRow : OpenClaim := { program := "ytegigiecamjobaa", sum := "a7551db1b479ff7a03a1f185b15d885cc6559f7febd22fac32bc0226adf39729", func := "partsong/partkeep.SnapEnds", spec := "snapEnds", unfollowed := true, recurses := true, apart := false, narrowed := true }
def SnapEndsUptoSaid : Prop := snapEndsUptoRow.holds Try.pinned (OpenSpec.upto snapEndsSpec)

/-- 'partkeep.SynodKeeps', WHERE WHAT IT READS IS OF BULK AT MOST 1048576: true; the input reads as it did. -/
def synodKeepsUptoRow : OpenClaim := { program := "ytegigiecamjobaa", sum := "a7551db1b479ff7a03a1f185b15d885cc6559f7febd22fac32bc0226adf39729", func := "partsong/partkeep.SynodKeeps", spec := "synodKeeps", unfollowed := true, recurses := true, apart := false, narrowed := true }
def SynodKeepsUptoSaid : Prop := synodKeepsUptoRow.holds Try.pinned (OpenSpec.upto synodKeepsSpec)

/-- 'partkeep.FlushKeeps', WHERE WHAT IT READS IS OF BULK AT MOST 1048576: true; the input reads as it did. -/
def flushKeepsUptoRow : OpenClaim := { program := "ytegigiecamjobaa", sum := "a7551db1b479ff7a03a1f185b15d885cc6559f7febd22fac32bc0226adf39729", func := "partsong/partkeep.FlushKeeps", spec := "flushKeeps", apart := false, narrowed := true }
def FlushKeepsUptoSaid : Prop := flushKeepsUptoRow.holds Try.pinned (OpenSpec.upto flushKeepsSpec)

/-- 'partkeep.SnapSum', WHERE WHAT IT READS IS OF BULK AT MOST 1048576: true; the input reads as it did. -/
def snapSumUptoRow : OpenClaim := { program := "ytegigiecamjobaa", sum := "a7551db1b479ff7a03a1f185b15d885cc6559f7febd22fac32bc0226adf39729", func := "partsong/partkeep.SnapSum", spec := "snapSum", unfollowed := true, recurses := true, apart := false, narrowed := true }
def SnapSumUptoSaid : Prop := snapSumUptoRow.holds Try.pinned (OpenSpec.upto snapSumSpec)

/-- 'partkeep.MatchCover', WHERE WHAT IT READS IS OF BULK AT MOST 1048576: true; the input reads as it did. -/
def matchCoverUptoRow : OpenClaim := { program := "ytegigiecamjobaa", sum := "a7551db1b479ff7a03a1f185b15d885cc6559f7febd22fac32bc0226adf39729", func := "partsong/partkeep.MatchCover", spec := "matchCover", unfollowed := true, recurses := true, apart := false, narrowed := true }
def MatchCoverUptoSaid : Prop := matchCoverUptoRow.holds Try.pinned (OpenSpec.upto matchCoverSpec)

/-- 'partkeep.SnapFront', WHERE WHAT IT READS IS OF BULK AT MOST 1048576: true; the input reads as it did. -/
def snapFrontUptoRow : OpenClaim := { program := "ytegigiecamjobaa", sum := "a7551db1b479ff7a03a1f185b15d885cc6559f7febd22fac32bc0226adf39729", func := "partsong/partkeep.SnapFront", spec := "snapFront", unfollowed := true, recurses := true, apart := false, narrowed := true }
def SnapFrontUptoSaid : Prop := snapFrontUptoRow.holds Try.pinned (OpenSpec.upto snapFrontSpec)

/-- 'partkeep.LaneTwice', WHERE WHAT IT READS IS OF BULK AT MOST 1048576: true; the input reads as it did. -/
def laneTwiceUptoRow : OpenClaim := { program := "ytegigiecamjobaa", sum := "a7551db1b479ff7a03a1f185b15d885cc6559f7febd22fac32bc0226adf39729", func := "partsong/partkeep.LaneTwice", spec := "laneTwice", inPlace := ["slices.overlaps[partsong/api.Parcel]"], unfollowed := true, recurses := true, apart := false, narrowed := true }
def LaneTwiceUptoSaid : Prop := laneTwiceUptoRow.holds Try.pinned (OpenSpec.upto laneTwiceSpec)

/-- 'partkeep.MatchHall', WHERE WHAT IT READS IS OF BULK AT MOST 1048576: true; the input reads as it did. -/
def matchHallUptoRow : OpenClaim := { program := "ytegigiecamjobaa", sum := "a7551db1b479ff7a03a1f185b15d885cc6559f7febd22fac32bc0226adf39729", func := "partsong/partkeep.MatchHall", spec := "matchHall", unfollowed := true, recurses := true, apart := false, narrowed := true }
def MatchHallUptoSaid : Prop := matchHallUptoRow.holds Try.pinned (OpenSpec.upto matchHallSpec)

/-- 'partkeep.LaneOrder', WHERE WHAT IT READS IS OF BULK AT MOST 1048576: true; the input reads as it did. -/
def laneOrderUptoRow : OpenClaim := { program := "ytegigiecamjobaa", sum := "a7551db1b479ff7a03a1f185b15d885cc6559f7febd22fac32bc0226adf39729", func := "partsong/partkeep.LaneOrder", spec := "laneOrder", inPlace := ["slices.overlaps[partsong/api.Parcel]"], unfollowed := true, recurses := true, apart := false, narrowed := true }
def LaneOrderUptoSaid : Prop := laneOrderUptoRow.holds Try.pinned (OpenSpec.upto laneOrderSpec)

/-- 'partkeep.LaneWhole', WHERE WHAT IT READS IS OF BULK AT MOST 1048576: true; the input reads as it did. -/
def laneWholeUptoRow : OpenClaim := { program := "ytegigiecamjobaa", sum := "a7551db1b479ff7a03a1f185b15d885cc6559f7febd22fac32bc0226adf39729", func := "partsong/partkeep.LaneWhole", spec := "laneWhole", inPlace := ["slices.overlaps[partsong/api.Parcel]"], unfollowed := true, recurses := true, apart := false, narrowed := true }
def LaneWholeUptoSaid : Prop := laneWholeUptoRow.holds Try.pinned (OpenSpec.upto laneWholeSpec)

/-- 'partkeep.SynodOne', WHERE WHAT IT READS IS OF BULK AT MOST 1048576: true; the input reads as it did. -/
def synodOneUptoRow : OpenClaim := { program := "ytegigiecamjobaa", sum := "a7551db1b479ff7a03a1f185b15d885cc6559f7febd22fac32bc0226adf39729", func := "partsong/partkeep.SynodOne", spec := "synodOne", unfollowed := true, recurses := true, apart := false, narrowed := true }
def SynodOneUptoSaid : Prop := synodOneUptoRow.holds Try.pinned (OpenSpec.upto synodOneSpec)

/-- 'partkeep.FlushSame', WHERE WHAT IT READS IS OF BULK AT MOST 1048576: true; the input reads as it did. -/
def flushSameUptoRow : OpenClaim := { program := "ytegigiecamjobaa", sum := "a7551db1b479ff7a03a1f185b15d885cc6559f7febd22fac32bc0226adf39729", func := "partsong/partkeep.FlushSame", spec := "flushSame", recurses := true, apart := false, narrowed := true }
def FlushSameUptoSaid : Prop := flushSameUptoRow.holds Try.pinned (OpenSpec.upto flushSameSpec)

/-- 'partkeep.SynodStays', WHERE WHAT IT READS IS OF BULK AT MOST 1048576: true; the input reads as it did. -/
def synodStaysUptoRow : OpenClaim := { program := "ytegigiecamjobaa", sum := "a7551db1b479ff7a03a1f185b15d885cc6559f7febd22fac32bc0226adf39729", func := "partsong/partkeep.SynodStays", spec := "synodStays", unfollowed := true, recurses := true, apart := false, narrowed := true }
def SynodStaysUptoSaid : Prop := synodStaysUptoRow.holds Try.pinned (OpenSpec.upto synodStaysSpec)

/-- 'partkeep.SynodEnds', WHERE WHAT IT READS IS OF BULK AT MOST 1048576: true; the input reads as it did. -/
def synodEndsUptoRow : OpenClaim := { program := "ytegigiecamjobaa", sum := "a7551db1b479ff7a03a1f185b15d885cc6559f7febd22fac32bc0226adf39729", func := "partsong/partkeep.SynodEnds", spec := "synodEnds", unfollowed := true, recurses := true, apart := false, narrowed := true }
def SynodEndsUptoSaid : Prop := synodEndsUptoRow.holds Try.pinned (OpenSpec.upto synodEndsSpec)

/-- 'partkeep.PosetSquare', WHERE WHAT IT READS IS OF BULK AT MOST 1048576: true; the input reads as it did. -/
def posetSquareUptoRow : OpenClaim := { program := "ytegigiecamjobaa", sum := "a7551db1b479ff7a03a1f185b15d885cc6559f7febd22fac32bc0226adf39729", func := "partsong/partkeep.PosetSquare", spec := "posetSquare", unfollowed := true, recurses := true, apart := false, narrowed := true }
def PosetSquareUptoSaid : Prop := posetSquareUptoRow.holds Try.pinned (OpenSpec.upto posetSquareSpec)

/-- 'partkeep.PosetWide', WHERE WHAT IT READS IS OF BULK AT MOST 1048576: true; the input reads as it did. -/
def posetWideUptoRow : OpenClaim := { program := "ytegigiecamjobaa", sum := "a7551db1b479ff7a03a1f185b15d885cc6559f7febd22fac32bc0226adf39729", func := "partsong/partkeep.PosetWide", spec := "posetWide", unfollowed := true, recurses := true, apart := false, narrowed := true }
def PosetWideUptoSaid : Prop := posetWideUptoRow.holds Try.pinned (OpenSpec.upto posetWideSpec)

end Rows
end Go.Proofs.Ytegigiecamjobaa
