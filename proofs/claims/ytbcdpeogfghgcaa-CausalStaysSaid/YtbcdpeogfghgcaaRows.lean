/-
  No cell of these rows narrows 'for every input' (looked for: loops, veiled, ifaces, maps, wideKeys, modest, calm, conditions, laid).
  DERIVED. THE GIVEN ROWS OF THIS SEAT. 16 by the template 'for every input the law returns true; each argument reads behind the call as it read before'; 0 by the template 'total and deterministic' (their statements: YtbcdpeogfghgcaaTotals.lean).
  GIVEN WITH THE SEED: the statements are not yours to turn. If you find one false, say at which input.
  Laid BY PROGRAM, IN A SANDBOX (cutbox-rows.mjs): the forced cells as the released guide's own fill.sh prints them over the translation 8083a72be519f2fd… (all of the seat's roots in one cut). By AI agents, Wed Nov 11 2026. No macro, syntax, notation, axiom, sorry.
-/
import Derived.Test.YtbcdpeogfghgcaaChecked
import GoSem.Claim
import GoSem.ClaimJoined
import GoSem.ClaimMapViews
import Derived.JoinedTies
import Derived.KernelRfl
namespace Go.Proofs.Ytbcdpeogfghgcaa
/- THE CELL 'sum', in the pinned program and in every row, IS THE sha256 OF THE DUMP (.gsa) THAT YtbcdpeogfghgcaaProg.lean LOADS. Nothing in Lean hashes anything: it is a label: what it is worth is what the hold of that sum in a sandbox is worth. -/
noncomputable def Try.pinned : Pinned := { name := "ytbcdpeogfghgcaa", sum := "8083a72be519f2fdd85b11f0c45b82739cde03cceeeca3d9b3536b97836eacb5", checked := Try.checked }
namespace Rows
def none {H : Type} : Left H := { results := [], args := [] }

/-- 'partkeep.FlushTrue': WHATEVER THE INPUT: true; the input reads as it did. -/
def flushTrueSpec : ChangeSpec := { name := "flushTrue", fn := fun _ => fun
  | [d1, d2] => { results := [.lit (.bool true)], args := [d1, d2] }
  | _ => none }
def flushTrueRow : OpenClaim := { program := "ytbcdpeogfghgcaa", sum := "8083a72be519f2fdd85b11f0c45b82739cde03cceeeca3d9b3536b97836eacb5", func := "partsong/partkeep.FlushTrue", spec := "flushTrue", apart := false }
def FlushTrueSaid : Prop := flushTrueRow.holds Try.pinned (OpenSpec.ofChange flushTrueSpec)

/-- ITS FALSE NEIGHBOUR: 'it returns false'. Refute it at one input. -/
def flushTrueWrong : ChangeSpec := { name := "flushTrue", fn := fun _ => fun
  | [d1, d2] => { results := [.lit (.bool false)], args := [d1, d2] }
  | _ => none }
def FlushTrueWrongFalsely : Prop := flushTrueRow.holds Try.pinned (OpenSpec.ofChange flushTrueWrong)

/-- 'partkeep.LatSizes': WHATEVER THE INPUT: true; the input reads as it did. -/
def latSizesSpec : ChangeSpec := { name := "latSizes", fn := fun _ => fun
  | [d1, d2, d3] => { results := [.lit (.bool true)], args := [d1, d2, d3] }
  | _ => none }
def latSizesRow : OpenClaim := { program := "ytbcdpeogfghgcaa", sum := "8083a72be519f2fdd85b11f0c45b82739cde03cceeeca3d9b3536b97836eacb5", func := "partsong/partkeep.LatSizes", spec := "latSizes", unfollowed := true, recurses := true, apart := false }
def LatSizesSaid : Prop := latSizesRow.holds Try.pinned (OpenSpec.ofChange latSizesSpec)

/-- ITS FALSE NEIGHBOUR: 'it returns false'. Refute it at one input. -/
def latSizesWrong : ChangeSpec := { name := "latSizes", fn := fun _ => fun
  | [d1, d2, d3] => { results := [.lit (.bool false)], args := [d1, d2, d3] }
  | _ => none }
def LatSizesWrongFalsely : Prop := latSizesRow.holds Try.pinned (OpenSpec.ofChange latSizesWrong)

/-- 'partkeep.CausalStays': WHATEVER THE INPUT: true; the input reads as it did. -/
def causalStaysSpec : ChangeSpec := { name := "causalStays", fn := fun _ => fun
  | [d1, d2] => { results := [.lit (.bool true)], args := [d1, d2] }
  | _ => none }
def causalStaysRow : OpenClaim := { program := "ytbcdpeogfghgcaa", sum := "8083a72be519f2fdd85b11f0c45b82739cde03cceeeca3d9b3536b97836eacb5", func := "partsong/partkeep.CausalStays", spec := "causalStays", unfollowed := true, recurses := true, apart := false }
def CausalStaysSaid : Prop := causalStaysRow.holds Try.pinned (OpenSpec.ofChange causalStaysSpec)

/-- ITS FALSE NEIGHBOUR: 'it returns false'. Refute it at one input. -/
def causalStaysWrong : ChangeSpec := { name := "causalStays", fn := fun _ => fun
  | [d1, d2] => { results := [.lit (.bool false)], args := [d1, d2] }
  | _ => none }
def CausalStaysWrongFalsely : Prop := causalStaysRow.holds Try.pinned (OpenSpec.ofChange causalStaysWrong)

/-- 'partkeep.TurnSame': WHATEVER THE INPUT: true; the input reads as it did. -/
def turnSameSpec : ChangeSpec := { name := "turnSame", fn := fun _ => fun
  | [d1, d2] => { results := [.lit (.bool true)], args := [d1, d2] }
  | _ => none }
def turnSameRow : OpenClaim := { program := "ytbcdpeogfghgcaa", sum := "8083a72be519f2fdd85b11f0c45b82739cde03cceeeca3d9b3536b97836eacb5", func := "partsong/partkeep.TurnSame", spec := "turnSame", unfollowed := true, recurses := true, apart := false }
def TurnSameSaid : Prop := turnSameRow.holds Try.pinned (OpenSpec.ofChange turnSameSpec)

/-- ITS FALSE NEIGHBOUR: 'it returns false'. Refute it at one input. -/
def turnSameWrong : ChangeSpec := { name := "turnSame", fn := fun _ => fun
  | [d1, d2] => { results := [.lit (.bool false)], args := [d1, d2] }
  | _ => none }
def TurnSameWrongFalsely : Prop := turnSameRow.holds Try.pinned (OpenSpec.ofChange turnSameWrong)

/-- 'partkeep.TurnAll': WHATEVER THE INPUT: true; the input reads as it did. -/
def turnAllSpec : ChangeSpec := { name := "turnAll", fn := fun _ => fun
  | [d1, d2] => { results := [.lit (.bool true)], args := [d1, d2] }
  | _ => none }
def turnAllRow : OpenClaim := { program := "ytbcdpeogfghgcaa", sum := "8083a72be519f2fdd85b11f0c45b82739cde03cceeeca3d9b3536b97836eacb5", func := "partsong/partkeep.TurnAll", spec := "turnAll", unfollowed := true, recurses := true, apart := false }
def TurnAllSaid : Prop := turnAllRow.holds Try.pinned (OpenSpec.ofChange turnAllSpec)

/-- ITS FALSE NEIGHBOUR: 'it returns false'. Refute it at one input. -/
def turnAllWrong : ChangeSpec := { name := "turnAll", fn := fun _ => fun
  | [d1, d2] => { results := [.lit (.bool false)], args := [d1, d2] }
  | _ => none }
def TurnAllWrongFalsely : Prop := turnAllRow.holds Try.pinned (OpenSpec.ofChange turnAllWrong)

/-- 'partkeep.TurnLine': WHATEVER THE INPUT: true; the input reads as it did. -/
def turnLineSpec : ChangeSpec := { name := "turnLine", fn := fun _ => fun
  | [d1, d2] => { results := [.lit (.bool true)], args := [d1, d2] }
  | _ => none }
def turnLineRow : OpenClaim := { program := "ytbcdpeogfghgcaa", sum := "8083a72be519f2fdd85b11f0c45b82739cde03cceeeca3d9b3536b97836eacb5", func := "partsong/partkeep.TurnLine", spec := "turnLine", unfollowed := true, recurses := true, apart := false }
def TurnLineSaid : Prop := turnLineRow.holds Try.pinned (OpenSpec.ofChange turnLineSpec)

/-- ITS FALSE NEIGHBOUR: 'it returns false'. Refute it at one input. -/
def turnLineWrong : ChangeSpec := { name := "turnLine", fn := fun _ => fun
  | [d1, d2] => { results := [.lit (.bool false)], args := [d1, d2] }
  | _ => none }
def TurnLineWrongFalsely : Prop := turnLineRow.holds Try.pinned (OpenSpec.ofChange turnLineWrong)

/-- 'partkeep.TurnRound': WHATEVER THE INPUT: true; the input reads as it did. -/
def turnRoundSpec : ChangeSpec := { name := "turnRound", fn := fun _ => fun
  | [d1, d2, d3] => { results := [.lit (.bool true)], args := [d1, d2, d3] }
  | _ => none }
def turnRoundRow : OpenClaim := { program := "ytbcdpeogfghgcaa", sum := "8083a72be519f2fdd85b11f0c45b82739cde03cceeeca3d9b3536b97836eacb5", func := "partsong/partkeep.TurnRound", spec := "turnRound", unfollowed := true, recurses := true, apart := false }
def TurnRoundSaid : Prop := turnRoundRow.holds Try.pinned (OpenSpec.ofChange turnRoundSpec)

/-- ITS FALSE NEIGHBOUR: 'it returns false'. Refute it at one input. -/
def turnRoundWrong : ChangeSpec := { name := "turnRound", fn := fun _ => fun
  | [d1, d2, d3] => { results := [.lit (.bool false)], args := [d1, d2, d3] }
  | _ => none }
def TurnRoundWrongFalsely : Prop := turnRoundRow.holds Try.pinned (OpenSpec.ofChange turnRoundWrong)

/-- 'partkeep.EnterOne': WHATEVER THE INPUT: true; the input reads as it did. -/
def enterOneSpec : ChangeSpec := { name := "enterOne", fn := fun _ => fun
  | [d1, d2] => { results := [.lit (.bool true)], args := [d1, d2] }
  | _ => none }
def enterOneRow : OpenClaim := { program := "ytbcdpeogfghgcaa", sum := "8083a72be519f2fdd85b11f0c45b82739cde03cceeeca3d9b3536b97836eacb5", func := "partsong/partkeep.EnterOne", spec := "enterOne", apart := false }
def EnterOneSaid : Prop := enterOneRow.holds Try.pinned (OpenSpec.ofChange enterOneSpec)

/-- ITS FALSE NEIGHBOUR: 'it returns false'. Refute it at one input. -/
def enterOneWrong : ChangeSpec := { name := "enterOne", fn := fun _ => fun
  | [d1, d2] => { results := [.lit (.bool false)], args := [d1, d2] }
  | _ => none }
def EnterOneWrongFalsely : Prop := enterOneRow.holds Try.pinned (OpenSpec.ofChange enterOneWrong)

/-- 'partkeep.EnterFew': WHATEVER THE INPUT: true; the input reads as it did. -/
def enterFewSpec : ChangeSpec := { name := "enterFew", fn := fun _ => fun
  | [d1, d2] => { results := [.lit (.bool true)], args := [d1, d2] }
  | _ => none }
def enterFewRow : OpenClaim := { program := "ytbcdpeogfghgcaa", sum := "8083a72be519f2fdd85b11f0c45b82739cde03cceeeca3d9b3536b97836eacb5", func := "partsong/partkeep.EnterFew", spec := "enterFew", apart := false }
def EnterFewSaid : Prop := enterFewRow.holds Try.pinned (OpenSpec.ofChange enterFewSpec)

/-- ITS FALSE NEIGHBOUR: 'it returns false'. Refute it at one input. -/
def enterFewWrong : ChangeSpec := { name := "enterFew", fn := fun _ => fun
  | [d1, d2] => { results := [.lit (.bool false)], args := [d1, d2] }
  | _ => none }
def EnterFewWrongFalsely : Prop := enterFewRow.holds Try.pinned (OpenSpec.ofChange enterFewWrong)

/-- 'partkeep.OverOwed': WHATEVER THE INPUT: true; the input reads as it did. -/
def overOwedSpec : ChangeSpec := { name := "overOwed", fn := fun _ => fun
  | [d1, d2] => { results := [.lit (.bool true)], args := [d1, d2] }
  | _ => none }
def overOwedRow : OpenClaim := { program := "ytbcdpeogfghgcaa", sum := "8083a72be519f2fdd85b11f0c45b82739cde03cceeeca3d9b3536b97836eacb5", func := "partsong/partkeep.OverOwed", spec := "overOwed", apart := false }
def OverOwedSaid : Prop := overOwedRow.holds Try.pinned (OpenSpec.ofChange overOwedSpec)

/-- ITS FALSE NEIGHBOUR: 'it returns false'. Refute it at one input. -/
def overOwedWrong : ChangeSpec := { name := "overOwed", fn := fun _ => fun
  | [d1, d2] => { results := [.lit (.bool false)], args := [d1, d2] }
  | _ => none }
def OverOwedWrongFalsely : Prop := overOwedRow.holds Try.pinned (OpenSpec.ofChange overOwedWrong)

/-- 'partkeep.EnterAll': WHATEVER THE INPUT: true; the input reads as it did. -/
def enterAllSpec : ChangeSpec := { name := "enterAll", fn := fun _ => fun
  | [d1, d2] => { results := [.lit (.bool true)], args := [d1, d2] }
  | _ => none }
def enterAllRow : OpenClaim := { program := "ytbcdpeogfghgcaa", sum := "8083a72be519f2fdd85b11f0c45b82739cde03cceeeca3d9b3536b97836eacb5", func := "partsong/partkeep.EnterAll", spec := "enterAll", unfollowed := true, recurses := true, apart := false }
def EnterAllSaid : Prop := enterAllRow.holds Try.pinned (OpenSpec.ofChange enterAllSpec)

/-- ITS FALSE NEIGHBOUR: 'it returns false'. Refute it at one input. -/
def enterAllWrong : ChangeSpec := { name := "enterAll", fn := fun _ => fun
  | [d1, d2] => { results := [.lit (.bool false)], args := [d1, d2] }
  | _ => none }
def EnterAllWrongFalsely : Prop := enterAllRow.holds Try.pinned (OpenSpec.ofChange enterAllWrong)

/-- 'partkeep.LaneTwice': WHATEVER THE INPUT: true; the input reads as it did. -/
def laneTwiceSpec : ChangeSpec := { name := "laneTwice", fn := fun _ => fun
  | [d1, d2] => { results := [.lit (.bool true)], args := [d1, d2] }
  | _ => none }
def laneTwiceRow : OpenClaim := { program := "ytbcdpeogfghgcaa", sum := "8083a72be519f2fdd85b11f0c45b82739cde03cceeeca3d9b3536b97836eacb5", func := "partsong/partkeep.LaneTwice", spec := "laneTwice", inPlace := ["slices.overlaps[partsong/api.Parcel]"], unfollowed := true, recurses := true, apart := false }
def LaneTwiceSaid : Prop := laneTwiceRow.holds Try.pinned (OpenSpec.ofChange laneTwiceSpec)

/-- ITS FALSE NEIGHBOUR: 'it returns false'. Refute it at one input. -/
def laneTwiceWrong : ChangeSpec := { name := "laneTwice", fn := fun _ => fun
  | [d1, d2] => { results := [.lit (.bool false)], args := [d1, d2] }
  | _ => none }
def LaneTwiceWrongFalsely : Prop := laneTwiceRow.holds Try.pinned (OpenSpec.ofChange laneTwiceWrong)

/-- 'partkeep.OverEnds': WHATEVER THE INPUT: true; the input reads as it did. -/
def overEndsSpec : ChangeSpec := { name := "overEnds", fn := fun _ => fun
  | [d1, d2] => { results := [.lit (.bool true)], args := [d1, d2] }
  | _ => none }
def overEndsRow : OpenClaim := { program := "ytbcdpeogfghgcaa", sum := "8083a72be519f2fdd85b11f0c45b82739cde03cceeeca3d9b3536b97836eacb5", func := "partsong/partkeep.OverEnds", spec := "overEnds", unfollowed := true, recurses := true, apart := false }
def OverEndsSaid : Prop := overEndsRow.holds Try.pinned (OpenSpec.ofChange overEndsSpec)

/-- ITS FALSE NEIGHBOUR: 'it returns false'. Refute it at one input. -/
def overEndsWrong : ChangeSpec := { name := "overEnds", fn := fun _ => fun
  | [d1, d2] => { results := [.lit (.bool false)], args := [d1, d2] }
  | _ => none }
def OverEndsWrongFalsely : Prop := overEndsRow.holds Try.pinned (OpenSpec.ofChange overEndsWrong)

/-- 'partkeep.OverSafe': WHATEVER THE INPUT: true; the input reads as it did. -/
def overSafeSpec : ChangeSpec := { name := "overSafe", fn := fun _ => fun
  | [d1, d2] => { results := [.lit (.bool true)], args := [d1, d2] }
  | _ => none }
def overSafeRow : OpenClaim := { program := "ytbcdpeogfghgcaa", sum := "8083a72be519f2fdd85b11f0c45b82739cde03cceeeca3d9b3536b97836eacb5", func := "partsong/partkeep.OverSafe", spec := "overSafe", unfollowed := true, recurses := true, apart := false }
def OverSafeSaid : Prop := overSafeRow.holds Try.pinned (OpenSpec.ofChange overSafeSpec)

/-- ITS FALSE NEIGHBOUR: 'it returns false'. Refute it at one input. -/
def overSafeWrong : ChangeSpec := { name := "overSafe", fn := fun _ => fun
  | [d1, d2] => { results := [.lit (.bool false)], args := [d1, d2] }
  | _ => none }
def OverSafeWrongFalsely : Prop := overSafeRow.holds Try.pinned (OpenSpec.ofChange overSafeWrong)

/-- 'partkeep.LaneOrder': WHATEVER THE INPUT: true; the input reads as it did. -/
def laneOrderSpec : ChangeSpec := { name := "laneOrder", fn := fun _ => fun
  | [d] => { results := [.lit (.bool true)], args := [d] }
  | _ => none }
def laneOrderRow : OpenClaim := { program := "ytbcdpeogfghgcaa", sum := "8083a72be519f2fdd85b11f0c45b82739cde03cceeeca3d9b3536b97836eacb5", func := "partsong/partkeep.LaneOrder", spec := "laneOrder", inPlace := ["slices.overlaps[partsong/api.Parcel]"], unfollowed := true, recurses := true, apart := false }
def LaneOrderSaid : Prop := laneOrderRow.holds Try.pinned (OpenSpec.ofChange laneOrderSpec)

/-- ITS FALSE NEIGHBOUR: 'it returns false'. Refute it at one input. -/
def laneOrderWrong : ChangeSpec := { name := "laneOrder", fn := fun _ => fun
  | [d] => { results := [.lit (.bool false)], args := [d] }
  | _ => none }
def LaneOrderWrongFalsely : Prop := laneOrderRow.holds Try.pinned (OpenSpec.ofChange laneOrderWrong)

/-- 'partkeep.LaneWhole': WHATEVER THE INPUT: true; the input reads as it did. -/
def laneWholeSpec : ChangeSpec := { name := "laneWhole", fn := fun _ => fun
  | [d] => { results := [.lit (.bool true)], args := [d] }
  | _ => none }
def laneWholeRow : OpenClaim := { program := "ytbcdpeogfghgcaa", sum := "8083a72be519f2fdd85b11f0c45b82739cde03cceeeca3d9b3536b97836eacb5", func := "partsong/partkeep.LaneWhole", spec := "laneWhole", inPlace := ["slices.overlaps[partsong/api.Parcel]"], unfollowed := true, recurses := true, apart := false }
def LaneWholeSaid : Prop := laneWholeRow.holds Try.pinned (OpenSpec.ofChange laneWholeSpec)

/-- ITS FALSE NEIGHBOUR: 'it returns false'. Refute it at one input. -/
def laneWholeWrong : ChangeSpec := { name := "laneWhole", fn := fun _ => fun
  | [d] => { results := [.lit (.bool false)], args := [d] }
  | _ => none }
def LaneWholeWrongFalsely : Prop := laneWholeRow.holds Try.pinned (OpenSpec.ofChange laneWholeWrong)

/- THE SECOND FORM. 'bulk': how many values and letters a reading holds, each counted each time it is reached (what is shared counts as often as it is met; a slice's spare places count too). A statement '..UptoSaid' is the law's where the arguments, and the package variables that the reading takes, are together of bulk at most 1048576: NARROWER than '..Said'. Prove '..Said' where nothing that the law and all that it calls make is longer than what came in: it says more and counts as full. Else prove '..UptoSaid'. A law counts once. -/
mutual
def uptoBulk {H : Type} : DataW H → Nat
  | .lit (.string bytes) => bytes.length + 1
  | .lit _ => 1
  | .nil => 1
  | .ptr d => uptoBulk d + 1
  | .slice elems spare => uptoBulkAll elems + uptoBulkAll spare + 1
  | .agg parts => uptoBulkAll parts + 1
  | .iface _ d => uptoBulk d + 1
  | .map entries => uptoBulkEntries entries + 1
  | .held _ => 1
def uptoBulkAll {H : Type} : List (DataW H) → Nat
  | [] => 0
  | d :: r => uptoBulk d + uptoBulkAll r
def uptoBulkEntries {H : Type} : List (Lit × DataW H) → Nat
  | [] => 0
  | x :: r => uptoBulkEntry x + uptoBulkEntries r
def uptoBulkEntry {H : Type} : Lit × DataW H → Nat
  | (.string bytes, d) => bytes.length + uptoBulk d + 1
  | (_, d) => uptoBulk d + 1
 end
def uptoSmall : (H : Type) → List (DataW H) → Bool := fun _ ds => decide (uptoBulkAll ds ≤ 1048576)
def OpenSpec.upto (s : _root_.Go.ChangeSpec) : _root_.Go.OpenSpec := { _root_.Go.OpenSpec.ofChange s with cond := some uptoSmall }

/-- 'partkeep.FlushTrue', WHERE WHAT IT READS IS OF BULK AT MOST 1048576: true; the input reads as it did. -/
def flushTrueUptoRow : OpenClaim := { program := "ytbcdpeogfghgcaa", sum := "8083a72be519f2fdd85b11f0c45b82739cde03cceeeca3d9b3536b97836eacb5", func := "partsong/partkeep.FlushTrue", spec := "flushTrue", apart := false, narrowed := true }
def FlushTrueUptoSaid : Prop := flushTrueUptoRow.holds Try.pinned (OpenSpec.upto flushTrueSpec)

/-- 'partkeep.LatSizes', WHERE WHAT IT READS IS OF BULK AT MOST 1048576: true; the input reads as it did. -/
def latSizesUptoRow : OpenClaim := { program := "ytbcdpeogfghgcaa", sum := "8083a72be519f2fdd85b11f0c45b82739cde03cceeeca3d9b3536b97836eacb5", func := "partsong/partkeep.LatSizes", spec := "latSizes", unfollowed := true, recurses := true, apart := false, narrowed := true }
def LatSizesUptoSaid : Prop := latSizesUptoRow.holds Try.pinned (OpenSpec.upto latSizesSpec)

/-- 'partkeep.CausalStays', WHERE WHAT IT READS IS OF BULK AT MOST 1048576: true; the input reads as it did. -/
def causalStaysUptoRow : OpenClaim := { program := "ytbcdpeogfghgcaa", sum := "8083a72be519f2fdd85b11f0c45b82739cde03cceeeca3d9b3536b97836eacb5", func := "partsong/partkeep.CausalStays", spec := "causalStays", unfollowed := true, recurses := true, apart := false, narrowed := true }
def CausalStaysUptoSaid : Prop := causalStaysUptoRow.holds Try.pinned (OpenSpec.upto causalStaysSpec)

/-- 'partkeep.TurnSame', WHERE WHAT IT READS IS OF BULK AT MOST 1048576: true; the input reads as it did. -/
def turnSameUptoRow : OpenClaim := { program := "ytbcdpeogfghgcaa", sum := "8083a72be519f2fdd85b11f0c45b82739cde03cceeeca3d9b3536b97836eacb5", func := "partsong/partkeep.TurnSame", spec := "turnSame", unfollowed := true, recurses := true, apart := false, narrowed := true }
def TurnSameUptoSaid : Prop := turnSameUptoRow.holds Try.pinned (OpenSpec.upto turnSameSpec)

/-- 'partkeep.TurnAll', WHERE WHAT IT READS IS OF BULK AT MOST 1048576: true; the input reads as it did. -/
def turnAllUptoRow : OpenClaim := { program := "ytbcdpeogfghgcaa", sum := "8083a72be519f2fdd85b11f0c45b82739cde03cceeeca3d9b3536b97836eacb5", func := "partsong/partkeep.TurnAll", spec := "turnAll", unfollowed := true, recurses := true, apart := false, narrowed := true }
def TurnAllUptoSaid : Prop := turnAllUptoRow.holds Try.pinned (OpenSpec.upto turnAllSpec)

/-- 'partkeep.TurnLine', WHERE WHAT IT READS IS OF BULK AT MOST 1048576: true; the input reads as it did. -/
def turnLineUptoRow : OpenClaim := { program := "ytbcdpeogfghgcaa", sum := "8083a72be519f2fdd85b11f0c45b82739cde03cceeeca3d9b3536b97836eacb5", func := "partsong/partkeep.TurnLine", spec := "turnLine", unfollowed := true, recurses := true, apart := false, narrowed := true }
def TurnLineUptoSaid : Prop := turnLineUptoRow.holds Try.pinned (OpenSpec.upto turnLineSpec)

/-- 'partkeep.TurnRound', WHERE WHAT IT READS IS OF BULK AT MOST 1048576: true; the input reads as it did. -/
def turnRoundUptoRow : OpenClaim := { program := "ytbcdpeogfghgcaa", sum := "8083a72be519f2fdd85b11f0c45b82739cde03cceeeca3d9b3536b97836eacb5", func := "partsong/partkeep.TurnRound", spec := "turnRound", unfollowed := true, recurses := true, apart := false, narrowed := true }
def TurnRoundUptoSaid : Prop := turnRoundUptoRow.holds Try.pinned (OpenSpec.upto turnRoundSpec)

/-- 'partkeep.EnterOne', WHERE WHAT IT READS IS OF BULK AT MOST 1048576: true; the input reads as it did. -/
def enterOneUptoRow : OpenClaim := { program := "ytbcdpeogfghgcaa", sum := "8083a72be519f2fdd85b11f0c45b82739cde03cceeeca3d9b3536b97836eacb5", func := "partsong/partkeep.EnterOne", spec := "enterOne", apart := false, narrowed := true }
def EnterOneUptoSaid : Prop := enterOneUptoRow.holds Try.pinned (OpenSpec.upto enterOneSpec)

/-- 'partkeep.EnterFew', WHERE WHAT IT READS IS OF BULK AT MOST 1048576: true; the input reads as it did. -/
def enterFewUptoRow : OpenClaim := { program := "ytbcdpeogfghgcaa", sum := "8083a72be519f2fdd85b11f0c45b82739cde03cceeeca3d9b3536b97836eacb5", func := "partsong/partkeep.EnterFew", spec := "enterFew", apart := false, narrowed := true }
def EnterFewUptoSaid : Prop := enterFewUptoRow.holds Try.pinned (OpenSpec.upto enterFewSpec)

/-- 'partkeep.OverOwed', WHERE WHAT IT READS IS OF BULK AT MOST 1048576: true; the input reads as it did. -/
def overOwedUptoRow : OpenClaim := { program := "ytbcdpeogfghgcaa", sum := "8083a72be519f2fdd85b11f0c45b82739cde03cceeeca3d9b3536b97836eacb5", func := "partsong/partkeep.OverOwed", spec := "overOwed", apart := false, narrowed := true }
def OverOwedUptoSaid : Prop := overOwedUptoRow.holds Try.pinned (OpenSpec.upto overOwedSpec)

/-- 'partkeep.EnterAll', WHERE WHAT IT READS IS OF BULK AT MOST 1048576: true; the input reads as it did. -/
def enterAllUptoRow : OpenClaim := { program := "ytbcdpeogfghgcaa", sum := "8083a72be519f2fdd85b11f0c45b82739cde03cceeeca3d9b3536b97836eacb5", func := "partsong/partkeep.EnterAll", spec := "enterAll", unfollowed := true, recurses := true, apart := false, narrowed := true }
def EnterAllUptoSaid : Prop := enterAllUptoRow.holds Try.pinned (OpenSpec.upto enterAllSpec)

/-- 'partkeep.LaneTwice', WHERE WHAT IT READS IS OF BULK AT MOST 1048576: true; the input reads as it did. -/
def laneTwiceUptoRow : OpenClaim := { program := "ytbcdpeogfghgcaa", sum := "8083a72be519f2fdd85b11f0c45b82739cde03cceeeca3d9b3536b97836eacb5", func := "partsong/partkeep.LaneTwice", spec := "laneTwice", inPlace := ["slices.overlaps[partsong/api.Parcel]"], unfollowed := true, recurses := true, apart := false, narrowed := true }
def LaneTwiceUptoSaid : Prop := laneTwiceUptoRow.holds Try.pinned (OpenSpec.upto laneTwiceSpec)

/-- 'partkeep.OverEnds', WHERE WHAT IT READS IS OF BULK AT MOST 1048576: true; the input reads as it did. -/
def overEndsUptoRow : OpenClaim := { program := "ytbcdpeogfghgcaa", sum := "8083a72be519f2fdd85b11f0c45b82739cde03cceeeca3d9b3536b97836eacb5", func := "partsong/partkeep.OverEnds", spec := "overEnds", unfollowed := true, recurses := true, apart := false, narrowed := true }
def OverEndsUptoSaid : Prop := overEndsUptoRow.holds Try.pinned (OpenSpec.upto overEndsSpec)

/-- 'partkeep.OverSafe', WHERE WHAT IT READS IS OF BULK AT MOST 1048576: true; the input reads as it did. -/
def overSafeUptoRow : OpenClaim := { program := "ytbcdpeogfghgcaa", sum := "8083a72be519f2fdd85b11f0c45b82739cde03cceeeca3d9b3536b97836eacb5", func := "partsong/partkeep.OverSafe", spec := "overSafe", unfollowed := true, recurses := true, apart := false, narrowed := true }
def OverSafeUptoSaid : Prop := overSafeUptoRow.holds Try.pinned (OpenSpec.upto overSafeSpec)

/-- 'partkeep.LaneOrder', WHERE WHAT IT READS IS OF BULK AT MOST 1048576: true; the input reads as it did. -/
def laneOrderUptoRow : OpenClaim := { program := "ytbcdpeogfghgcaa", sum := "8083a72be519f2fdd85b11f0c45b82739cde03cceeeca3d9b3536b97836eacb5", func := "partsong/partkeep.LaneOrder", spec := "laneOrder", inPlace := ["slices.overlaps[partsong/api.Parcel]"], unfollowed := true, recurses := true, apart := false, narrowed := true }
def LaneOrderUptoSaid : Prop := laneOrderUptoRow.holds Try.pinned (OpenSpec.upto laneOrderSpec)

/-- 'partkeep.LaneWhole', WHERE WHAT IT READS IS OF BULK AT MOST 1048576: true; the input reads as it did. -/
def laneWholeUptoRow : OpenClaim := { program := "ytbcdpeogfghgcaa", sum := "8083a72be519f2fdd85b11f0c45b82739cde03cceeeca3d9b3536b97836eacb5", func := "partsong/partkeep.LaneWhole", spec := "laneWhole", inPlace := ["slices.overlaps[partsong/api.Parcel]"], unfollowed := true, recurses := true, apart := false, narrowed := true }
def LaneWholeUptoSaid : Prop := laneWholeUptoRow.holds Try.pinned (OpenSpec.upto laneWholeSpec)

end Rows
end Go.Proofs.Ytbcdpeogfghgcaa
