/-
  No cell of these rows narrows 'for every input' (looked for: loops, veiled, ifaces, maps, wideKeys, modest, calm, conditions, laid).
  DERIVED. THE GIVEN ROWS OF THIS SEAT. 16 by the template 'for every input the law returns true; each argument reads behind the call as it read before'; 0 by the template 'total and deterministic' (their statements: YtcafiieffenohaaTotals.lean).
  GIVEN WITH THE SEED: the statements are not yours to turn. If you find one false, say at which input.
  Laid BY PROGRAM, IN A SANDBOX (cutbox-rows.mjs): the forced cells as the released guide's own fill.sh prints them over the translation f6408ec577ae8b85… (all of the seat's roots in one cut). By AI agents, Wed Nov 11 2026. No macro, syntax, notation, axiom, sorry.
-/
import Derived.Test.YtcafiieffenohaaChecked
import GoSem.Claim
import GoSem.ClaimJoined
import GoSem.ClaimMapViews
import Derived.JoinedTies
import Derived.KernelRfl
namespace Go.Proofs.Ytcafiieffenohaa
/- THE CELL 'sum', in the pinned program and in every row, IS THE sha256 OF THE DUMP (.gsa) THAT YtcafiieffenohaaProg.lean LOADS. Nothing in Lean hashes anything: it is a label: what it is worth is what the hold of that sum in a sandbox is worth. -/
noncomputable def Try.pinned : Pinned := { name := "ytcafiieffenohaa", sum := "f6408ec577ae8b8598c055bbd3d7475b5278de368417638c4dea960103aefee8", checked := Try.checked }
namespace Rows
def none {H : Type} : Left H := { results := [], args := [] }

/-- 'partkeep.RingRound': WHATEVER THE INPUT: true; the input reads as it did. -/
def ringRoundSpec : ChangeSpec := { name := "ringRound", fn := fun _ => fun
  | [d1, d2] => { results := [.lit (.bool true)], args := [d1, d2] }
  | _ => none }
def ringRoundRow : OpenClaim := { program := "ytcafiieffenohaa", sum := "f6408ec577ae8b8598c055bbd3d7475b5278de368417638c4dea960103aefee8", func := "partsong/partkeep.RingRound", spec := "ringRound", plainKeys := false, apart := false }
def RingRoundSaid : Prop := ringRoundRow.holds Try.pinned (OpenSpec.ofChange ringRoundSpec)

/-- ITS FALSE NEIGHBOUR: 'it returns false'. Refute it at one input. -/
def ringRoundWrong : ChangeSpec := { name := "ringRound", fn := fun _ => fun
  | [d1, d2] => { results := [.lit (.bool false)], args := [d1, d2] }
  | _ => none }
def RingRoundWrongFalsely : Prop := ringRoundRow.holds Try.pinned (OpenSpec.ofChange ringRoundWrong)

/-- 'partkeep.LatLaws': WHATEVER THE INPUT: true; the input reads as it did. -/
def latLawsSpec : ChangeSpec := { name := "latLaws", fn := fun _ => fun
  | [d1, d2, d3, d4] => { results := [.lit (.bool true)], args := [d1, d2, d3, d4] }
  | _ => none }
def latLawsRow : OpenClaim := { program := "ytcafiieffenohaa", sum := "f6408ec577ae8b8598c055bbd3d7475b5278de368417638c4dea960103aefee8", func := "partsong/partkeep.LatLaws", spec := "latLaws", unfollowed := true, recurses := true, plainKeys := false, apart := false }
def LatLawsSaid : Prop := latLawsRow.holds Try.pinned (OpenSpec.ofChange latLawsSpec)

/-- ITS FALSE NEIGHBOUR: 'it returns false'. Refute it at one input. -/
def latLawsWrong : ChangeSpec := { name := "latLaws", fn := fun _ => fun
  | [d1, d2, d3, d4] => { results := [.lit (.bool false)], args := [d1, d2, d3, d4] }
  | _ => none }
def LatLawsWrongFalsely : Prop := latLawsRow.holds Try.pinned (OpenSpec.ofChange latLawsWrong)

/-- 'partkeep.LatFirm': WHATEVER THE INPUT: true; the input reads as it did. -/
def latFirmSpec : ChangeSpec := { name := "latFirm", fn := fun _ => fun
  | [d] => { results := [.lit (.bool true)], args := [d] }
  | _ => none }
def latFirmRow : OpenClaim := { program := "ytcafiieffenohaa", sum := "f6408ec577ae8b8598c055bbd3d7475b5278de368417638c4dea960103aefee8", func := "partsong/partkeep.LatFirm", spec := "latFirm", plainKeys := false, apart := false }
def LatFirmSaid : Prop := latFirmRow.holds Try.pinned (OpenSpec.ofChange latFirmSpec)

/-- ITS FALSE NEIGHBOUR: 'it returns false'. Refute it at one input. -/
def latFirmWrong : ChangeSpec := { name := "latFirm", fn := fun _ => fun
  | [d] => { results := [.lit (.bool false)], args := [d] }
  | _ => none }
def LatFirmWrongFalsely : Prop := latFirmRow.holds Try.pinned (OpenSpec.ofChange latFirmWrong)

/-- 'partkeep.WireBack': WHATEVER THE INPUT: true; the input reads as it did. -/
def wireBackSpec : ChangeSpec := { name := "wireBack", fn := fun _ => fun
  | [d1, d2] => { results := [.lit (.bool true)], args := [d1, d2] }
  | _ => none }
def wireBackRow : OpenClaim := { program := "ytcafiieffenohaa", sum := "f6408ec577ae8b8598c055bbd3d7475b5278de368417638c4dea960103aefee8", func := "partsong/partkeep.WireBack", spec := "wireBack", unfollowed := true, recurses := true, plainKeys := false, apart := false }
def WireBackSaid : Prop := wireBackRow.holds Try.pinned (OpenSpec.ofChange wireBackSpec)

/-- ITS FALSE NEIGHBOUR: 'it returns false'. Refute it at one input. -/
def wireBackWrong : ChangeSpec := { name := "wireBack", fn := fun _ => fun
  | [d1, d2] => { results := [.lit (.bool false)], args := [d1, d2] }
  | _ => none }
def WireBackWrongFalsely : Prop := wireBackRow.holds Try.pinned (OpenSpec.ofChange wireBackWrong)

/-- 'partkeep.WireBursts': WHATEVER THE INPUT: true; the input reads as it did. -/
def wireBurstsSpec : ChangeSpec := { name := "wireBursts", fn := fun _ => fun
  | [d1, d2, d3] => { results := [.lit (.bool true)], args := [d1, d2, d3] }
  | _ => none }
def wireBurstsRow : OpenClaim := { program := "ytcafiieffenohaa", sum := "f6408ec577ae8b8598c055bbd3d7475b5278de368417638c4dea960103aefee8", func := "partsong/partkeep.WireBursts", spec := "wireBursts", unfollowed := true, recurses := true, plainKeys := false, apart := false }
def WireBurstsSaid : Prop := wireBurstsRow.holds Try.pinned (OpenSpec.ofChange wireBurstsSpec)

/-- ITS FALSE NEIGHBOUR: 'it returns false'. Refute it at one input. -/
def wireBurstsWrong : ChangeSpec := { name := "wireBursts", fn := fun _ => fun
  | [d1, d2, d3] => { results := [.lit (.bool false)], args := [d1, d2, d3] }
  | _ => none }
def WireBurstsWrongFalsely : Prop := wireBurstsRow.holds Try.pinned (OpenSpec.ofChange wireBurstsWrong)

/-- 'partkeep.WireFew': WHATEVER THE INPUT: true; the input reads as it did. -/
def wireFewSpec : ChangeSpec := { name := "wireFew", fn := fun _ => fun
  | [d1, d2] => { results := [.lit (.bool true)], args := [d1, d2] }
  | _ => none }
def wireFewRow : OpenClaim := { program := "ytcafiieffenohaa", sum := "f6408ec577ae8b8598c055bbd3d7475b5278de368417638c4dea960103aefee8", func := "partsong/partkeep.WireFew", spec := "wireFew", unfollowed := true, recurses := true, plainKeys := false, apart := false }
def WireFewSaid : Prop := wireFewRow.holds Try.pinned (OpenSpec.ofChange wireFewSpec)

/-- ITS FALSE NEIGHBOUR: 'it returns false'. Refute it at one input. -/
def wireFewWrong : ChangeSpec := { name := "wireFew", fn := fun _ => fun
  | [d1, d2] => { results := [.lit (.bool false)], args := [d1, d2] }
  | _ => none }
def WireFewWrongFalsely : Prop := wireFewRow.holds Try.pinned (OpenSpec.ofChange wireFewWrong)

/-- 'partkeep.LatStill': WHATEVER THE INPUT: true; the input reads as it did. -/
def latStillSpec : ChangeSpec := { name := "latStill", fn := fun _ => fun
  | [d1, d2] => { results := [.lit (.bool true)], args := [d1, d2] }
  | _ => none }
def latStillRow : OpenClaim := { program := "ytcafiieffenohaa", sum := "f6408ec577ae8b8598c055bbd3d7475b5278de368417638c4dea960103aefee8", func := "partsong/partkeep.LatStill", spec := "latStill", unfollowed := true, recurses := true, plainKeys := false, apart := false }
def LatStillSaid : Prop := latStillRow.holds Try.pinned (OpenSpec.ofChange latStillSpec)

/-- ITS FALSE NEIGHBOUR: 'it returns false'. Refute it at one input. -/
def latStillWrong : ChangeSpec := { name := "latStill", fn := fun _ => fun
  | [d1, d2] => { results := [.lit (.bool false)], args := [d1, d2] }
  | _ => none }
def LatStillWrongFalsely : Prop := latStillRow.holds Try.pinned (OpenSpec.ofChange latStillWrong)

/-- 'partkeep.RingHalves': WHATEVER THE INPUT: true; the input reads as it did. -/
def ringHalvesSpec : ChangeSpec := { name := "ringHalves", fn := fun _ => fun
  | [d] => { results := [.lit (.bool true)], args := [d] }
  | _ => none }
def ringHalvesRow : OpenClaim := { program := "ytcafiieffenohaa", sum := "f6408ec577ae8b8598c055bbd3d7475b5278de368417638c4dea960103aefee8", func := "partsong/partkeep.RingHalves", spec := "ringHalves", plainKeys := false, apart := false }
def RingHalvesSaid : Prop := ringHalvesRow.holds Try.pinned (OpenSpec.ofChange ringHalvesSpec)

/-- ITS FALSE NEIGHBOUR: 'it returns false'. Refute it at one input. -/
def ringHalvesWrong : ChangeSpec := { name := "ringHalves", fn := fun _ => fun
  | [d] => { results := [.lit (.bool false)], args := [d] }
  | _ => none }
def RingHalvesWrongFalsely : Prop := ringHalvesRow.holds Try.pinned (OpenSpec.ofChange ringHalvesWrong)

/-- 'partkeep.PosetCover': WHATEVER THE INPUT: true; the input reads as it did. -/
def posetCoverSpec : ChangeSpec := { name := "posetCover", fn := fun _ => fun
  | [d1, d2] => { results := [.lit (.bool true)], args := [d1, d2] }
  | _ => none }
def posetCoverRow : OpenClaim := { program := "ytcafiieffenohaa", sum := "f6408ec577ae8b8598c055bbd3d7475b5278de368417638c4dea960103aefee8", func := "partsong/partkeep.PosetCover", spec := "posetCover", unfollowed := true, recurses := true, plainKeys := false, apart := false }
def PosetCoverSaid : Prop := posetCoverRow.holds Try.pinned (OpenSpec.ofChange posetCoverSpec)

/-- ITS FALSE NEIGHBOUR: 'it returns false'. Refute it at one input. -/
def posetCoverWrong : ChangeSpec := { name := "posetCover", fn := fun _ => fun
  | [d1, d2] => { results := [.lit (.bool false)], args := [d1, d2] }
  | _ => none }
def PosetCoverWrongFalsely : Prop := posetCoverRow.holds Try.pinned (OpenSpec.ofChange posetCoverWrong)

/-- 'partkeep.RingFirst': WHATEVER THE INPUT: true; the input reads as it did. -/
def ringFirstSpec : ChangeSpec := { name := "ringFirst", fn := fun _ => fun
  | [d] => { results := [.lit (.bool true)], args := [d] }
  | _ => none }
def ringFirstRow : OpenClaim := { program := "ytcafiieffenohaa", sum := "f6408ec577ae8b8598c055bbd3d7475b5278de368417638c4dea960103aefee8", func := "partsong/partkeep.RingFirst", spec := "ringFirst", plainKeys := false, apart := false }
def RingFirstSaid : Prop := ringFirstRow.holds Try.pinned (OpenSpec.ofChange ringFirstSpec)

/-- ITS FALSE NEIGHBOUR: 'it returns false'. Refute it at one input. -/
def ringFirstWrong : ChangeSpec := { name := "ringFirst", fn := fun _ => fun
  | [d] => { results := [.lit (.bool false)], args := [d] }
  | _ => none }
def RingFirstWrongFalsely : Prop := ringFirstRow.holds Try.pinned (OpenSpec.ofChange ringFirstWrong)

/-- 'partkeep.RingOrder': WHATEVER THE INPUT: true; the input reads as it did. -/
def ringOrderSpec : ChangeSpec := { name := "ringOrder", fn := fun _ => fun
  | [d] => { results := [.lit (.bool true)], args := [d] }
  | _ => none }
def ringOrderRow : OpenClaim := { program := "ytcafiieffenohaa", sum := "f6408ec577ae8b8598c055bbd3d7475b5278de368417638c4dea960103aefee8", func := "partsong/partkeep.RingOrder", spec := "ringOrder", plainKeys := false, apart := false }
def RingOrderSaid : Prop := ringOrderRow.holds Try.pinned (OpenSpec.ofChange ringOrderSpec)

/-- ITS FALSE NEIGHBOUR: 'it returns false'. Refute it at one input. -/
def ringOrderWrong : ChangeSpec := { name := "ringOrder", fn := fun _ => fun
  | [d] => { results := [.lit (.bool false)], args := [d] }
  | _ => none }
def RingOrderWrongFalsely : Prop := ringOrderRow.holds Try.pinned (OpenSpec.ofChange ringOrderWrong)

/-- 'partkeep.PredFirst': WHATEVER THE INPUT: true; the input reads as it did. -/
def predFirstSpec : ChangeSpec := { name := "predFirst", fn := fun _ => fun
  | [d1, d2, d3] => { results := [.lit (.bool true)], args := [d1, d2, d3] }
  | _ => none }
def predFirstRow : OpenClaim := { program := "ytcafiieffenohaa", sum := "f6408ec577ae8b8598c055bbd3d7475b5278de368417638c4dea960103aefee8", func := "partsong/partkeep.PredFirst", spec := "predFirst", plainKeys := false, apart := false }
def PredFirstSaid : Prop := predFirstRow.holds Try.pinned (OpenSpec.ofChange predFirstSpec)

/-- ITS FALSE NEIGHBOUR: 'it returns false'. Refute it at one input. -/
def predFirstWrong : ChangeSpec := { name := "predFirst", fn := fun _ => fun
  | [d1, d2, d3] => { results := [.lit (.bool false)], args := [d1, d2, d3] }
  | _ => none }
def PredFirstWrongFalsely : Prop := predFirstRow.holds Try.pinned (OpenSpec.ofChange predFirstWrong)

/-- 'partkeep.RingTurns': WHATEVER THE INPUT: true; the input reads as it did. -/
def ringTurnsSpec : ChangeSpec := { name := "ringTurns", fn := fun _ => fun
  | [d1, d2] => { results := [.lit (.bool true)], args := [d1, d2] }
  | _ => none }
def ringTurnsRow : OpenClaim := { program := "ytcafiieffenohaa", sum := "f6408ec577ae8b8598c055bbd3d7475b5278de368417638c4dea960103aefee8", func := "partsong/partkeep.RingTurns", spec := "ringTurns", plainKeys := false, apart := false }
def RingTurnsSaid : Prop := ringTurnsRow.holds Try.pinned (OpenSpec.ofChange ringTurnsSpec)

/-- ITS FALSE NEIGHBOUR: 'it returns false'. Refute it at one input. -/
def ringTurnsWrong : ChangeSpec := { name := "ringTurns", fn := fun _ => fun
  | [d1, d2] => { results := [.lit (.bool false)], args := [d1, d2] }
  | _ => none }
def RingTurnsWrongFalsely : Prop := ringTurnsRow.holds Try.pinned (OpenSpec.ofChange ringTurnsWrong)

/-- 'partkeep.PredMust': WHATEVER THE INPUT: true; the input reads as it did. -/
def predMustSpec : ChangeSpec := { name := "predMust", fn := fun _ => fun
  | [d1, d2, d3] => { results := [.lit (.bool true)], args := [d1, d2, d3] }
  | _ => none }
def predMustRow : OpenClaim := { program := "ytcafiieffenohaa", sum := "f6408ec577ae8b8598c055bbd3d7475b5278de368417638c4dea960103aefee8", func := "partsong/partkeep.PredMust", spec := "predMust", plainKeys := false, apart := false }
def PredMustSaid : Prop := predMustRow.holds Try.pinned (OpenSpec.ofChange predMustSpec)

/-- ITS FALSE NEIGHBOUR: 'it returns false'. Refute it at one input. -/
def predMustWrong : ChangeSpec := { name := "predMust", fn := fun _ => fun
  | [d1, d2, d3] => { results := [.lit (.bool false)], args := [d1, d2, d3] }
  | _ => none }
def PredMustWrongFalsely : Prop := predMustRow.holds Try.pinned (OpenSpec.ofChange predMustWrong)

/-- 'partkeep.PredBoth': WHATEVER THE INPUT: true; the input reads as it did. -/
def predBothSpec : ChangeSpec := { name := "predBoth", fn := fun _ => fun
  | [d1, d2] => { results := [.lit (.bool true)], args := [d1, d2] }
  | _ => none }
def predBothRow : OpenClaim := { program := "ytcafiieffenohaa", sum := "f6408ec577ae8b8598c055bbd3d7475b5278de368417638c4dea960103aefee8", func := "partsong/partkeep.PredBoth", spec := "predBoth", plainKeys := false, apart := false }
def PredBothSaid : Prop := predBothRow.holds Try.pinned (OpenSpec.ofChange predBothSpec)

/-- ITS FALSE NEIGHBOUR: 'it returns false'. Refute it at one input. -/
def predBothWrong : ChangeSpec := { name := "predBoth", fn := fun _ => fun
  | [d1, d2] => { results := [.lit (.bool false)], args := [d1, d2] }
  | _ => none }
def PredBothWrongFalsely : Prop := predBothRow.holds Try.pinned (OpenSpec.ofChange predBothWrong)

/-- 'partkeep.PredMore': WHATEVER THE INPUT: true; the input reads as it did. -/
def predMoreSpec : ChangeSpec := { name := "predMore", fn := fun _ => fun
  | [d1, d2, d3] => { results := [.lit (.bool true)], args := [d1, d2, d3] }
  | _ => none }
def predMoreRow : OpenClaim := { program := "ytcafiieffenohaa", sum := "f6408ec577ae8b8598c055bbd3d7475b5278de368417638c4dea960103aefee8", func := "partsong/partkeep.PredMore", spec := "predMore", plainKeys := false, apart := false }
def PredMoreSaid : Prop := predMoreRow.holds Try.pinned (OpenSpec.ofChange predMoreSpec)

/-- ITS FALSE NEIGHBOUR: 'it returns false'. Refute it at one input. -/
def predMoreWrong : ChangeSpec := { name := "predMore", fn := fun _ => fun
  | [d1, d2, d3] => { results := [.lit (.bool false)], args := [d1, d2, d3] }
  | _ => none }
def PredMoreWrongFalsely : Prop := predMoreRow.holds Try.pinned (OpenSpec.ofChange predMoreWrong)

/- THE SECOND FORM. 'bulk': how many values and letters a reading holds, each counted each time it is reached (what is shared counts as often as it is met; a slice's spare places count too). A statement '..UptoSaid' is the law's where the arguments, and the package variables that the reading takes, are together of bulk at most 1048576: NARROWER than '..Said'. Prove '..Said' where nothing that the law and all that it calls make is longer than what came in: it says more and counts as full. Else prove '..UptoSaid'. A law counts once. -/
mutual
def uptoBulk {H : Type} : DataW H → Nat
  | .lit (.string bytes) => bytes.length + 1
  | .lit _ => 1
  | .nil => 1
  | .ptr d => uptoBulk d + 1
  | .slice elems spare => uptoBulkAll elems + uptoBulkAll spare + 1
  | .agg parts => uptoBulkAll parts + 1
  | .iface _ d => uptoBulk d + 1
  | .map entries => uptoBulkEntries entries + 1
  | .held _ => 1
def uptoBulkAll {H : Type} : List (DataW H) → Nat
  | [] => 0
  | d :: r => uptoBulk d + uptoBulkAll r
def uptoBulkEntries {H : Type} : List (Lit × DataW H) → Nat
  | [] => 0
  | x :: r => uptoBulkEntry x + uptoBulkEntries r
def uptoBulkEntry {H : Type} : Lit × DataW H → Nat
  | (.string bytes, d) => bytes.length + uptoBulk d + 1
  | (_, d) => uptoBulk d + 1
 end
def uptoSmall : (H : Type) → List (DataW H) → Bool := fun _ ds => decide (uptoBulkAll ds ≤ 1048576)
def OpenSpec.upto (s : _root_.Go.ChangeSpec) : _root_.Go.OpenSpec := { _root_.Go.OpenSpec.ofChange s with cond := some uptoSmall }

/-- 'partkeep.RingRound', WHERE WHAT IT READS IS OF BULK AT MOST 1048576: true; the input reads as it did. -/
def ringRoundUptoRow : OpenClaim := { program := "ytcafiieffenohaa", sum := "f6408ec577ae8b8598c055bbd3d7475b5278de368417638c4dea960103aefee8", func := "partsong/partkeep.RingRound", spec := "ringRound", plainKeys := false, apart := false, narrowed := true }
def RingRoundUptoSaid : Prop := ringRoundUptoRow.holds Try.pinned (OpenSpec.upto ringRoundSpec)

/-- 'partkeep.LatLaws', WHERE WHAT IT READS IS OF BULK AT MOST 1048576: true; the input reads as it did. -/
def latLawsUptoRow : OpenClaim := { program := "ytcafiieffenohaa", sum := "f6408ec577ae8b8598c055bbd3d7475b5278de368417638c4dea960103aefee8", func := "partsong/partkeep.LatLaws", spec := "latLaws", unfollowed := true, recurses := true, plainKeys := false, apart := false, narrowed := true }
def LatLawsUptoSaid : Prop := latLawsUptoRow.holds Try.pinned (OpenSpec.upto latLawsSpec)

/-- 'partkeep.LatFirm', WHERE WHAT IT READS IS OF BULK AT MOST 1048576: true; the input reads as it did. -/
def latFirmUptoRow : OpenClaim := { program := "ytcafiieffenohaa", sum := "f6408ec577ae8b8598c055bbd3d7475b5278de368417638c4dea960103aefee8", func := "partsong/partkeep.LatFirm", spec := "latFirm", plainKeys := false, apart := false, narrowed := true }
def LatFirmUptoSaid : Prop := latFirmUptoRow.holds Try.pinned (OpenSpec.upto latFirmSpec)

/-- 'partkeep.WireBack', WHERE WHAT IT READS IS OF BULK AT MOST 1048576: true; the input reads as it did. -/
def wireBackUptoRow : OpenClaim := { program := "ytcafiieffenohaa", sum := "f6408ec577ae8b8598c055bbd3d7475b5278de368417638c4dea960103aefee8", func := "partsong/partkeep.WireBack", spec := "wireBack", unfollowed := true, recurses := true, plainKeys := false, apart := false, narrowed := true }
def WireBackUptoSaid : Prop := wireBackUptoRow.holds Try.pinned (OpenSpec.upto wireBackSpec)

/-- 'partkeep.WireBursts', WHERE WHAT IT READS IS OF BULK AT MOST 1048576: true; the input reads as it did. -/
def wireBurstsUptoRow : OpenClaim := { program := "ytcafiieffenohaa", sum := "f6408ec577ae8b8598c055bbd3d7475b5278de368417638c4dea960103aefee8", func := "partsong/partkeep.WireBursts", spec := "wireBursts", unfollowed := true, recurses := true, plainKeys := false, apart := false, narrowed := true }
def WireBurstsUptoSaid : Prop := wireBurstsUptoRow.holds Try.pinned (OpenSpec.upto wireBurstsSpec)

/-- 'partkeep.WireFew', WHERE WHAT IT READS IS OF BULK AT MOST 1048576: true; the input reads as it did. -/
def wireFewUptoRow : OpenClaim := { program := "ytcafiieffenohaa", sum := "f6408ec577ae8b8598c055bbd3d7475b5278de368417638c4dea960103aefee8", func := "partsong/partkeep.WireFew", spec := "wireFew", unfollowed := true, recurses := true, plainKeys := false, apart := false, narrowed := true }
def WireFewUptoSaid : Prop := wireFewUptoRow.holds Try.pinned (OpenSpec.upto wireFewSpec)

/-- 'partkeep.LatStill', WHERE WHAT IT READS IS OF BULK AT MOST 1048576: true; the input reads as it did. -/
def latStillUptoRow : OpenClaim := { program := "ytcafiieffenohaa", sum := "f6408ec577ae8b8598c055bbd3d7475b5278de368417638c4dea960103aefee8", func := "partsong/partkeep.LatStill", spec := "latStill", unfollowed := true, recurses := true, plainKeys := false, apart := false, narrowed := true }
def LatStillUptoSaid : Prop := latStillUptoRow.holds Try.pinned (OpenSpec.upto latStillSpec)

/-- 'partkeep.RingHalves', WHERE WHAT IT READS IS OF BULK AT MOST 1048576: true; the input reads as it did. -/
def ringHalvesUptoRow : OpenClaim := { program := "ytcafiieffenohaa", sum := "f6408ec577ae8b8598c055bbd3d7475b5278de368417638c4dea960103aefee8", func := "partsong/partkeep.RingHalves", spec := "ringHalves", plainKeys := false, apart := false, narrowed := true }
def RingHalvesUptoSaid : Prop := ringHalvesUptoRow.holds Try.pinned (OpenSpec.upto ringHalvesSpec)

/-- 'partkeep.PosetCover', WHERE WHAT IT READS IS OF BULK AT MOST 1048576: true; the input reads as it did. -/
def posetCoverUptoRow : OpenClaim := { program := "ytcafiieffenohaa", sum := "f6408ec577ae8b8598c055bbd3d7475b5278de368417638c4dea960103aefee8", func := "partsong/partkeep.PosetCover", spec := "posetCover", unfollowed := true, recurses := true, plainKeys := false, apart := false, narrowed := true }
def PosetCoverUptoSaid : Prop := posetCoverUptoRow.holds Try.pinned (OpenSpec.upto posetCoverSpec)

/-- 'partkeep.RingFirst', WHERE WHAT IT READS IS OF BULK AT MOST 1048576: true; the input reads as it did. -/
def ringFirstUptoRow : OpenClaim := { program := "ytcafiieffenohaa", sum := "f6408ec577ae8b8598c055bbd3d7475b5278de368417638c4dea960103aefee8", func := "partsong/partkeep.RingFirst", spec := "ringFirst", plainKeys := false, apart := false, narrowed := true }
def RingFirstUptoSaid : Prop := ringFirstUptoRow.holds Try.pinned (OpenSpec.upto ringFirstSpec)

/-- 'partkeep.RingOrder', WHERE WHAT IT READS IS OF BULK AT MOST 1048576: true; the input reads as it did. -/
def ringOrderUptoRow : OpenClaim := { program := "ytcafiieffenohaa", sum := "f6408ec577ae8b8598c055bbd3d7475b5278de368417638c4dea960103aefee8", func := "partsong/partkeep.RingOrder", spec := "ringOrder", plainKeys := false, apart := false, narrowed := true }
def RingOrderUptoSaid : Prop := ringOrderUptoRow.holds Try.pinned (OpenSpec.upto ringOrderSpec)

/-- 'partkeep.PredFirst', WHERE WHAT IT READS IS OF BULK AT MOST 1048576: true; the input reads as it did. -/
def predFirstUptoRow : OpenClaim := { program := "ytcafiieffenohaa", sum := "f6408ec577ae8b8598c055bbd3d7475b5278de368417638c4dea960103aefee8", func := "partsong/partkeep.PredFirst", spec := "predFirst", plainKeys := false, apart := false, narrowed := true }
def PredFirstUptoSaid : Prop := predFirstUptoRow.holds Try.pinned (OpenSpec.upto predFirstSpec)

/-- 'partkeep.RingTurns', WHERE WHAT IT READS IS OF BULK AT MOST 1048576: true; the input reads as it did. -/
def ringTurnsUptoRow : OpenClaim := { program := "ytcafiieffenohaa", sum := "f6408ec577ae8b8598c055bbd3d7475b5278de368417638c4dea960103aefee8", func := "partsong/partkeep.RingTurns", spec := "ringTurns", plainKeys := false, apart := false, narrowed := true }
def RingTurnsUptoSaid : Prop := ringTurnsUptoRow.holds Try.pinned (OpenSpec.upto ringTurnsSpec)

/-- 'partkeep.PredMust', WHERE WHAT IT READS IS OF BULK AT MOST 1048576: true; the input reads as it did. -/
def predMustUptoRow : OpenClaim := { program := "ytcafiieffenohaa", sum := "f6408ec577ae8b8598c055bbd3d7475b5278de368417638c4dea960103aefee8", func := "partsong/partkeep.PredMust", spec := "predMust", plainKeys := false, apart := false, narrowed := true }
def PredMustUptoSaid : Prop := predMustUptoRow.holds Try.pinned (OpenSpec.upto predMustSpec)

/-- 'partkeep.PredBoth', WHERE WHAT IT READS IS OF BULK AT MOST 1048576: true; the input reads as it did. -/
def predBothUptoRow : OpenClaim := { program := "ytcafiieffenohaa", sum := "f6408ec577ae8b8598c055bbd3d7475b5278de368417638c4dea960103aefee8", func := "partsong/partkeep.PredBoth", spec := "predBoth", plainKeys := false, apart := false, narrowed := true }
def PredBothUptoSaid : Prop := predBothUptoRow.holds Try.pinned (OpenSpec.upto predBothSpec)

/-- 'partkeep.PredMore', WHERE WHAT IT READS IS OF BULK AT MOST 1048576: true; the input reads as it did. -/
def predMoreUptoRow : OpenClaim := { program := "ytcafiieffenohaa", sum := "f6408ec577ae8b8598c055bbd3d7475b5278de368417638c4dea960103aefee8", func := "partsong/partkeep.PredMore", spec := "predMore", plainKeys := false, apart := false, narrowed := true }
def PredMoreUptoSaid : Prop := predMoreUptoRow.holds Try.pinned (OpenSpec.upto predMoreSpec)

end Rows
end Go.Proofs.Ytcafiieffenohaa
