/-
  No cell of these rows narrows 'for every input' (looked for: loops, veiled, ifaces, maps, wideKeys, modest, calm, conditions, laid).
  DERIVED. THE GIVEN ROWS OF THIS SEAT. 16 by the template 'for every input the law returns true; each argument reads behind the call as it read before'; 0 by the template 'total and deterministic' (their statements: YtibpibbnnogdkaaTotals.lean).
  GIVEN WITH THE SEED: the statements are not yours to turn. If you find one false, say at which input.
  Laid BY PROGRAM, IN A SANDBOX (cutbox-rows.mjs): the forced cells as the released guide's own fill.sh prints them over the translation 99bf429f0dce2622… (all of the seat's roots in one cut). By AI agents, Wed Nov 11 2026. No macro, syntax, notation, axiom, sorry.
-/
import Derived.Test.YtibpibbnnogdkaaChecked
import GoSem.Claim
import GoSem.ClaimJoined
import GoSem.ClaimMapViews
import Derived.JoinedTies
import Derived.KernelRfl
namespace Go.Proofs.Ytibpibbnnogdkaa
/- THE CELL 'sum', in the pinned program and in every row, IS THE sha256 OF THE DUMP (.gsa) THAT YtibpibbnnogdkaaProg.lean LOADS. Nothing in Lean hashes anything: it is a label: what it is worth is what the hold of that sum in a sandbox is worth. -/
noncomputable def Try.pinned : Pinned := { name := "ytibpibbnnogdkaa", sum := "99bf429f0dce26225f7ee76cf6e588c6906ea6fe16baae310f8625f3d4ce4a09", checked := Try.checked }
namespace Rows
def none {H : Type} : Left H := { results := [], args := [] }

/-- 'partkeep.MatFirm': WHATEVER THE INPUT: true; the input reads as it did. -/
def matFirmSpec : ChangeSpec := { name := "matFirm", fn := fun _ => fun
  | [d] => { results := [.lit (.bool true)], args := [d] }
  | _ => none }
def matFirmRow : OpenClaim := { program := "ytibpibbnnogdkaa", sum := "99bf429f0dce26225f7ee76cf6e588c6906ea6fe16baae310f8625f3d4ce4a09", func := "partsong/partkeep.MatFirm", spec := "matFirm", apart := false }
def MatFirmSaid : Prop := matFirmRow.holds Try.pinned (OpenSpec.ofChange matFirmSpec)

/-- ITS FALSE NEIGHBOUR: 'it returns false'. Refute it at one input. -/
def matFirmWrong : ChangeSpec := { name := "matFirm", fn := fun _ => fun
  | [d] => { results := [.lit (.bool false)], args := [d] }
  | _ => none }
def MatFirmWrongFalsely : Prop := matFirmRow.holds Try.pinned (OpenSpec.ofChange matFirmWrong)

/-- 'partkeep.VectTakes': WHATEVER THE INPUT: true; the input reads as it did. -/
def vectTakesSpec : ChangeSpec := { name := "vectTakes", fn := fun _ => fun
  | [d] => { results := [.lit (.bool true)], args := [d] }
  | _ => none }
def vectTakesRow : OpenClaim := { program := "ytibpibbnnogdkaa", sum := "99bf429f0dce26225f7ee76cf6e588c6906ea6fe16baae310f8625f3d4ce4a09", func := "partsong/partkeep.VectTakes", spec := "vectTakes", apart := false }
def VectTakesSaid : Prop := vectTakesRow.holds Try.pinned (OpenSpec.ofChange vectTakesSpec)

/-- ITS FALSE NEIGHBOUR: 'it returns false'. Refute it at one input. -/
def vectTakesWrong : ChangeSpec := { name := "vectTakes", fn := fun _ => fun
  | [d] => { results := [.lit (.bool false)], args := [d] }
  | _ => none }
def VectTakesWrongFalsely : Prop := vectTakesRow.holds Try.pinned (OpenSpec.ofChange vectTakesWrong)

/-- 'partkeep.StampBound': WHATEVER THE INPUT: true; the input reads as it did. -/
def stampBoundSpec : ChangeSpec := { name := "stampBound", fn := fun _ => fun
  | [d1, d2] => { results := [.lit (.bool true)], args := [d1, d2] }
  | _ => none }
def stampBoundRow : OpenClaim := { program := "ytibpibbnnogdkaa", sum := "99bf429f0dce26225f7ee76cf6e588c6906ea6fe16baae310f8625f3d4ce4a09", func := "partsong/partkeep.StampBound", spec := "stampBound", apart := false }
def StampBoundSaid : Prop := stampBoundRow.holds Try.pinned (OpenSpec.ofChange stampBoundSpec)

/-- ITS FALSE NEIGHBOUR: 'it returns false'. Refute it at one input. -/
def stampBoundWrong : ChangeSpec := { name := "stampBound", fn := fun _ => fun
  | [d1, d2] => { results := [.lit (.bool false)], args := [d1, d2] }
  | _ => none }
def StampBoundWrongFalsely : Prop := stampBoundRow.holds Try.pinned (OpenSpec.ofChange stampBoundWrong)

/-- 'partkeep.MatTrue': WHATEVER THE INPUT: true; the input reads as it did. -/
def matTrueSpec : ChangeSpec := { name := "matTrue", fn := fun _ => fun
  | [d1, d2] => { results := [.lit (.bool true)], args := [d1, d2] }
  | _ => none }
def matTrueRow : OpenClaim := { program := "ytibpibbnnogdkaa", sum := "99bf429f0dce26225f7ee76cf6e588c6906ea6fe16baae310f8625f3d4ce4a09", func := "partsong/partkeep.MatTrue", spec := "matTrue", apart := false }
def MatTrueSaid : Prop := matTrueRow.holds Try.pinned (OpenSpec.ofChange matTrueSpec)

/-- ITS FALSE NEIGHBOUR: 'it returns false'. Refute it at one input. -/
def matTrueWrong : ChangeSpec := { name := "matTrue", fn := fun _ => fun
  | [d1, d2] => { results := [.lit (.bool false)], args := [d1, d2] }
  | _ => none }
def MatTrueWrongFalsely : Prop := matTrueRow.holds Try.pinned (OpenSpec.ofChange matTrueWrong)

/-- 'partkeep.MatRises': WHATEVER THE INPUT: true; the input reads as it did. -/
def matRisesSpec : ChangeSpec := { name := "matRises", fn := fun _ => fun
  | [d1, d2] => { results := [.lit (.bool true)], args := [d1, d2] }
  | _ => none }
def matRisesRow : OpenClaim := { program := "ytibpibbnnogdkaa", sum := "99bf429f0dce26225f7ee76cf6e588c6906ea6fe16baae310f8625f3d4ce4a09", func := "partsong/partkeep.MatRises", spec := "matRises", apart := false }
def MatRisesSaid : Prop := matRisesRow.holds Try.pinned (OpenSpec.ofChange matRisesSpec)

/-- ITS FALSE NEIGHBOUR: 'it returns false'. Refute it at one input. -/
def matRisesWrong : ChangeSpec := { name := "matRises", fn := fun _ => fun
  | [d1, d2] => { results := [.lit (.bool false)], args := [d1, d2] }
  | _ => none }
def MatRisesWrongFalsely : Prop := matRisesRow.holds Try.pinned (OpenSpec.ofChange matRisesWrong)

/-- 'partkeep.MatAll': WHATEVER THE INPUT: true; the input reads as it did. -/
def matAllSpec : ChangeSpec := { name := "matAll", fn := fun _ => fun
  | [d1, d2] => { results := [.lit (.bool true)], args := [d1, d2] }
  | _ => none }
def matAllRow : OpenClaim := { program := "ytibpibbnnogdkaa", sum := "99bf429f0dce26225f7ee76cf6e588c6906ea6fe16baae310f8625f3d4ce4a09", func := "partsong/partkeep.MatAll", spec := "matAll", apart := false }
def MatAllSaid : Prop := matAllRow.holds Try.pinned (OpenSpec.ofChange matAllSpec)

/-- ITS FALSE NEIGHBOUR: 'it returns false'. Refute it at one input. -/
def matAllWrong : ChangeSpec := { name := "matAll", fn := fun _ => fun
  | [d1, d2] => { results := [.lit (.bool false)], args := [d1, d2] }
  | _ => none }
def MatAllWrongFalsely : Prop := matAllRow.holds Try.pinned (OpenSpec.ofChange matAllWrong)

/-- 'partkeep.VectCounts': WHATEVER THE INPUT: true; the input reads as it did. -/
def vectCountsSpec : ChangeSpec := { name := "vectCounts", fn := fun _ => fun
  | [d] => { results := [.lit (.bool true)], args := [d] }
  | _ => none }
def vectCountsRow : OpenClaim := { program := "ytibpibbnnogdkaa", sum := "99bf429f0dce26225f7ee76cf6e588c6906ea6fe16baae310f8625f3d4ce4a09", func := "partsong/partkeep.VectCounts", spec := "vectCounts", apart := false }
def VectCountsSaid : Prop := vectCountsRow.holds Try.pinned (OpenSpec.ofChange vectCountsSpec)

/-- ITS FALSE NEIGHBOUR: 'it returns false'. Refute it at one input. -/
def vectCountsWrong : ChangeSpec := { name := "vectCounts", fn := fun _ => fun
  | [d] => { results := [.lit (.bool false)], args := [d] }
  | _ => none }
def VectCountsWrongFalsely : Prop := vectCountsRow.holds Try.pinned (OpenSpec.ofChange vectCountsWrong)

/-- 'partkeep.StampAhead': WHATEVER THE INPUT: true; the input reads as it did. -/
def stampAheadSpec : ChangeSpec := { name := "stampAhead", fn := fun _ => fun
  | [d] => { results := [.lit (.bool true)], args := [d] }
  | _ => none }
def stampAheadRow : OpenClaim := { program := "ytibpibbnnogdkaa", sum := "99bf429f0dce26225f7ee76cf6e588c6906ea6fe16baae310f8625f3d4ce4a09", func := "partsong/partkeep.StampAhead", spec := "stampAhead", apart := false }
def StampAheadSaid : Prop := stampAheadRow.holds Try.pinned (OpenSpec.ofChange stampAheadSpec)

/-- ITS FALSE NEIGHBOUR: 'it returns false'. Refute it at one input. -/
def stampAheadWrong : ChangeSpec := { name := "stampAhead", fn := fun _ => fun
  | [d] => { results := [.lit (.bool false)], args := [d] }
  | _ => none }
def StampAheadWrongFalsely : Prop := stampAheadRow.holds Try.pinned (OpenSpec.ofChange stampAheadWrong)

/-- 'partkeep.StampFront': WHATEVER THE INPUT: true; the input reads as it did. -/
def stampFrontSpec : ChangeSpec := { name := "stampFront", fn := fun _ => fun
  | [d1, d2] => { results := [.lit (.bool true)], args := [d1, d2] }
  | _ => none }
def stampFrontRow : OpenClaim := { program := "ytibpibbnnogdkaa", sum := "99bf429f0dce26225f7ee76cf6e588c6906ea6fe16baae310f8625f3d4ce4a09", func := "partsong/partkeep.StampFront", spec := "stampFront", apart := false }
def StampFrontSaid : Prop := stampFrontRow.holds Try.pinned (OpenSpec.ofChange stampFrontSpec)

/-- ITS FALSE NEIGHBOUR: 'it returns false'. Refute it at one input. -/
def stampFrontWrong : ChangeSpec := { name := "stampFront", fn := fun _ => fun
  | [d1, d2] => { results := [.lit (.bool false)], args := [d1, d2] }
  | _ => none }
def StampFrontWrongFalsely : Prop := stampFrontRow.holds Try.pinned (OpenSpec.ofChange stampFrontWrong)

/-- 'partkeep.StampLong': WHATEVER THE INPUT: true; the input reads as it did. -/
def stampLongSpec : ChangeSpec := { name := "stampLong", fn := fun _ => fun
  | [d] => { results := [.lit (.bool true)], args := [d] }
  | _ => none }
def stampLongRow : OpenClaim := { program := "ytibpibbnnogdkaa", sum := "99bf429f0dce26225f7ee76cf6e588c6906ea6fe16baae310f8625f3d4ce4a09", func := "partsong/partkeep.StampLong", spec := "stampLong", unfollowed := true, recurses := true, apart := false }
def StampLongSaid : Prop := stampLongRow.holds Try.pinned (OpenSpec.ofChange stampLongSpec)

/-- ITS FALSE NEIGHBOUR: 'it returns false'. Refute it at one input. -/
def stampLongWrong : ChangeSpec := { name := "stampLong", fn := fun _ => fun
  | [d] => { results := [.lit (.bool false)], args := [d] }
  | _ => none }
def StampLongWrongFalsely : Prop := stampLongRow.holds Try.pinned (OpenSpec.ofChange stampLongWrong)

/-- 'partkeep.CutGrows': WHATEVER THE INPUT: true; the input reads as it did. -/
def cutGrowsSpec : ChangeSpec := { name := "cutGrows", fn := fun _ => fun
  | [d1, d2, d3] => { results := [.lit (.bool true)], args := [d1, d2, d3] }
  | _ => none }
def cutGrowsRow : OpenClaim := { program := "ytibpibbnnogdkaa", sum := "99bf429f0dce26225f7ee76cf6e588c6906ea6fe16baae310f8625f3d4ce4a09", func := "partsong/partkeep.CutGrows", spec := "cutGrows", apart := false }
def CutGrowsSaid : Prop := cutGrowsRow.holds Try.pinned (OpenSpec.ofChange cutGrowsSpec)

/-- ITS FALSE NEIGHBOUR: 'it returns false'. Refute it at one input. -/
def cutGrowsWrong : ChangeSpec := { name := "cutGrows", fn := fun _ => fun
  | [d1, d2, d3] => { results := [.lit (.bool false)], args := [d1, d2, d3] }
  | _ => none }
def CutGrowsWrongFalsely : Prop := cutGrowsRow.holds Try.pinned (OpenSpec.ofChange cutGrowsWrong)

/-- 'partkeep.VectTells': WHATEVER THE INPUT: true; the input reads as it did. -/
def vectTellsSpec : ChangeSpec := { name := "vectTells", fn := fun _ => fun
  | [d] => { results := [.lit (.bool true)], args := [d] }
  | _ => none }
def vectTellsRow : OpenClaim := { program := "ytibpibbnnogdkaa", sum := "99bf429f0dce26225f7ee76cf6e588c6906ea6fe16baae310f8625f3d4ce4a09", func := "partsong/partkeep.VectTells", spec := "vectTells", apart := false }
def VectTellsSaid : Prop := vectTellsRow.holds Try.pinned (OpenSpec.ofChange vectTellsSpec)

/-- ITS FALSE NEIGHBOUR: 'it returns false'. Refute it at one input. -/
def vectTellsWrong : ChangeSpec := { name := "vectTells", fn := fun _ => fun
  | [d] => { results := [.lit (.bool false)], args := [d] }
  | _ => none }
def VectTellsWrongFalsely : Prop := vectTellsRow.holds Try.pinned (OpenSpec.ofChange vectTellsWrong)

/-- 'partkeep.CutMeets': WHATEVER THE INPUT: true; the input reads as it did. -/
def cutMeetsSpec : ChangeSpec := { name := "cutMeets", fn := fun _ => fun
  | [d1, d2, d3] => { results := [.lit (.bool true)], args := [d1, d2, d3] }
  | _ => none }
def cutMeetsRow : OpenClaim := { program := "ytibpibbnnogdkaa", sum := "99bf429f0dce26225f7ee76cf6e588c6906ea6fe16baae310f8625f3d4ce4a09", func := "partsong/partkeep.CutMeets", spec := "cutMeets", apart := false }
def CutMeetsSaid : Prop := cutMeetsRow.holds Try.pinned (OpenSpec.ofChange cutMeetsSpec)

/-- ITS FALSE NEIGHBOUR: 'it returns false'. Refute it at one input. -/
def cutMeetsWrong : ChangeSpec := { name := "cutMeets", fn := fun _ => fun
  | [d1, d2, d3] => { results := [.lit (.bool false)], args := [d1, d2, d3] }
  | _ => none }
def CutMeetsWrongFalsely : Prop := cutMeetsRow.holds Try.pinned (OpenSpec.ofChange cutMeetsWrong)

/-- 'partkeep.CutShrinks': WHATEVER THE INPUT: true; the input reads as it did. -/
def cutShrinksSpec : ChangeSpec := { name := "cutShrinks", fn := fun _ => fun
  | [d1, d2, d3] => { results := [.lit (.bool true)], args := [d1, d2, d3] }
  | _ => none }
def cutShrinksRow : OpenClaim := { program := "ytibpibbnnogdkaa", sum := "99bf429f0dce26225f7ee76cf6e588c6906ea6fe16baae310f8625f3d4ce4a09", func := "partsong/partkeep.CutShrinks", spec := "cutShrinks", apart := false }
def CutShrinksSaid : Prop := cutShrinksRow.holds Try.pinned (OpenSpec.ofChange cutShrinksSpec)

/-- ITS FALSE NEIGHBOUR: 'it returns false'. Refute it at one input. -/
def cutShrinksWrong : ChangeSpec := { name := "cutShrinks", fn := fun _ => fun
  | [d1, d2, d3] => { results := [.lit (.bool false)], args := [d1, d2, d3] }
  | _ => none }
def CutShrinksWrongFalsely : Prop := cutShrinksRow.holds Try.pinned (OpenSpec.ofChange cutShrinksWrong)

/-- 'partkeep.CutMany': WHATEVER THE INPUT: true; the input reads as it did. -/
def cutManySpec : ChangeSpec := { name := "cutMany", fn := fun _ => fun
  | [d] => { results := [.lit (.bool true)], args := [d] }
  | _ => none }
def cutManyRow : OpenClaim := { program := "ytibpibbnnogdkaa", sum := "99bf429f0dce26225f7ee76cf6e588c6906ea6fe16baae310f8625f3d4ce4a09", func := "partsong/partkeep.CutMany", spec := "cutMany", unfollowed := true, recurses := true, apart := false }
def CutManySaid : Prop := cutManyRow.holds Try.pinned (OpenSpec.ofChange cutManySpec)

/-- ITS FALSE NEIGHBOUR: 'it returns false'. Refute it at one input. -/
def cutManyWrong : ChangeSpec := { name := "cutMany", fn := fun _ => fun
  | [d] => { results := [.lit (.bool false)], args := [d] }
  | _ => none }
def CutManyWrongFalsely : Prop := cutManyRow.holds Try.pinned (OpenSpec.ofChange cutManyWrong)

/-- 'partkeep.CutSteps': WHATEVER THE INPUT: true; the input reads as it did. -/
def cutStepsSpec : ChangeSpec := { name := "cutSteps", fn := fun _ => fun
  | [d1, d2] => { results := [.lit (.bool true)], args := [d1, d2] }
  | _ => none }
def cutStepsRow : OpenClaim := { program := "ytibpibbnnogdkaa", sum := "99bf429f0dce26225f7ee76cf6e588c6906ea6fe16baae310f8625f3d4ce4a09", func := "partsong/partkeep.CutSteps", spec := "cutSteps", apart := false }
def CutStepsSaid : Prop := cutStepsRow.holds Try.pinned (OpenSpec.ofChange cutStepsSpec)

/-- ITS FALSE NEIGHBOUR: 'it returns false'. Refute it at one input. -/
def cutStepsWrong : ChangeSpec := { name := "cutSteps", fn := fun _ => fun
  | [d1, d2] => { results := [.lit (.bool false)], args := [d1, d2] }
  | _ => none }
def CutStepsWrongFalsely : Prop := cutStepsRow.holds Try.pinned (OpenSpec.ofChange cutStepsWrong)

/- THE SECOND FORM. 'bulk': how many values and letters a reading holds, each counted each time it is reached (what is shared counts as often as it is met; a slice's spare places count too). A statement '..UptoSaid' is the law's where the arguments, and the package variables that the reading takes, are together of bulk at most 1048576: NARROWER than '..Said'. Prove '..Said' where nothing that the law and all that it calls make is longer than what came in: it says more and counts as full. Else prove '..UptoSaid'. A law counts once. -/
mutual
def uptoBulk {H : Type} : DataW H → Nat
  | .lit (.string bytes) => bytes.length + 1
  | .lit _ => 1
  | .nil => 1
  | .ptr d => uptoBulk d + 1
  | .slice elems spare => uptoBulkAll elems + uptoBulkAll spare + 1
  | .agg parts => uptoBulkAll parts + 1
  | .iface _ d => uptoBulk d + 1
  | .map entries => uptoBulkEntries entries + 1
  | .held _ => 1
def uptoBulkAll {H : Type} : List (DataW H) → Nat
  | [] => 0
  | d :: r => uptoBulk d + uptoBulkAll r
def uptoBulkEntries {H : Type} : List (Lit × DataW H) → Nat
  | [] => 0
  | x :: r => uptoBulkEntry x + uptoBulkEntries r
def uptoBulkEntry {H : Type} : Lit × DataW H → Nat
  | (.string bytes, d) => bytes.length + uptoBulk d + 1
  | (_, d) => uptoBulk d + 1
 end
def uptoSmall : (H : Type) → List (DataW H) → Bool := fun _ ds => decide (uptoBulkAll ds ≤ 1048576)
def OpenSpec.upto (s : _root_.Go.ChangeSpec) : _root_.Go.OpenSpec := { _root_.Go.OpenSpec.ofChange s with cond := some uptoSmall }

/-- 'partkeep.MatFirm', WHERE WHAT IT READS IS OF BULK AT MOST 1048576: true; the input reads as it did. -/
def matFirmUptoRow : OpenClaim := { program := "ytibpibbnnogdkaa", sum := "99bf429f0dce26225f7ee76cf6e588c6906ea6fe16baae310f8625f3d4ce4a09", func := "partsong/partkeep.MatFirm", spec := "matFirm", apart := false, narrowed := true }
def MatFirmUptoSaid : Prop := matFirmUptoRow.holds Try.pinned (OpenSpec.upto matFirmSpec)

/-- 'partkeep.VectTakes', WHERE WHAT IT READS IS OF BULK AT MOST 1048576: true; the input reads as it did. -/
def vectTakesUptoRow : OpenClaim := { program := "ytibpibbnnogdkaa", sum := "99bf429f0dce26225f7ee76cf6e588c6906ea6fe16baae310f8625f3d4ce4a09", func := "partsong/partkeep.VectTakes", spec := "vectTakes", apart := false, narrowed := true }
def VectTakesUptoSaid : Prop := vectTakesUptoRow.holds Try.pinned (OpenSpec.upto vectTakesSpec)

/-- 'partkeep.StampBound', WHERE WHAT IT READS IS OF BULK AT MOST 1048576: true; the input reads as it did. -/
def stampBoundUptoRow : OpenClaim := { program := "ytibpibbnnogdkaa", sum := "99bf429f0dce26225f7ee76cf6e588c6906ea6fe16baae310f8625f3d4ce4a09", func := "partsong/partkeep.StampBound", spec := "stampBound", apart := false, narrowed := true }
def StampBoundUptoSaid : Prop := stampBoundUptoRow.holds Try.pinned (OpenSpec.upto stampBoundSpec)

/-- 'partkeep.MatTrue', WHERE WHAT IT READS IS OF BULK AT MOST 1048576: true; the input reads as it did. -/
def matTrueUptoRow : OpenClaim := { program := "ytibpibbnnogdkaa", sum := "99bf429f0dce26225f7ee76cf6e588c6906ea6fe16baae310f8625f3d4ce4a09", func := "partsong/partkeep.MatTrue", spec := "matTrue", apart := false, narrowed := true }
def MatTrueUptoSaid : Prop := matTrueUptoRow.holds Try.pinned (OpenSpec.upto matTrueSpec)

/-- 'partkeep.MatRises', WHERE WHAT IT READS IS OF BULK AT MOST 1048576: true; the input reads as it did. -/
def matRisesUptoRow : OpenClaim := { program := "ytibpibbnnogdkaa", sum := "99bf429f0dce26225f7ee76cf6e588c6906ea6fe16baae310f8625f3d4ce4a09", func := "partsong/partkeep.MatRises", spec := "matRises", apart := false, narrowed := true }
def MatRisesUptoSaid : Prop := matRisesUptoRow.holds Try.pinned (OpenSpec.upto matRisesSpec)

/-- 'partkeep.MatAll', WHERE WHAT IT READS IS OF BULK AT MOST 1048576: true; the input reads as it did. -/
def matAllUptoRow : OpenClaim := { program := "ytibpibbnnogdkaa", sum := "99bf429f0dce26225f7ee76cf6e588c6906ea6fe16baae310f8625f3d4ce4a09", func := "partsong/partkeep.MatAll", spec := "matAll", apart := false, narrowed := true }
def MatAllUptoSaid : Prop := matAllUptoRow.holds Try.pinned (OpenSpec.upto matAllSpec)

/-- 'partkeep.VectCounts', WHERE WHAT IT READS IS OF BULK AT MOST 1048576: true; the input reads as it did. -/
def vectCountsUptoRow : OpenClaim := { program := "ytibpibbnnogdkaa", sum := "99bf429f0dce26225f7ee76cf6e588c6906ea6fe16baae310f8625f3d4ce4a09", func := "partsong/partkeep.VectCounts", spec := "vectCounts", apart := false, narrowed := true }
def VectCountsUptoSaid : Prop := vectCountsUptoRow.holds Try.pinned (OpenSpec.upto vectCountsSpec)

/-- 'partkeep.StampAhead', WHERE WHAT IT READS IS OF BULK AT MOST 1048576: true; the input reads as it did. -/
def stampAheadUptoRow : OpenClaim := { program := "ytibpibbnnogdkaa", sum := "99bf429f0dce26225f7ee76cf6e588c6906ea6fe16baae310f8625f3d4ce4a09", func := "partsong/partkeep.StampAhead", spec := "stampAhead", apart := false, narrowed := true }
def StampAheadUptoSaid : Prop := stampAheadUptoRow.holds Try.pinned (OpenSpec.upto stampAheadSpec)

/-- 'partkeep.StampFront', WHERE WHAT IT READS IS OF BULK AT MOST 1048576: true; the input reads as it did. -/
def stampFrontUptoRow : OpenClaim := { program := "ytibpibbnnogdkaa", sum := "99bf429f0dce26225f7ee76cf6e588c6906ea6fe16baae310f8625f3d4ce4a09", func := "partsong/partkeep.StampFront", spec := "stampFront", apart := false, narrowed := true }
def StampFrontUptoSaid : Prop := stampFrontUptoRow.holds Try.pinned (OpenSpec.upto stampFrontSpec)

/-- 'partkeep.StampLong', WHERE WHAT IT READS IS OF BULK AT MOST 1048576: true; the input reads as it did. -/
def stampLongUptoRow : OpenClaim := { program := "ytibpibbnnogdkaa", sum := "99bf429f0dce26225f7ee76cf6e588c6906ea6fe16baae310f8625f3d4ce4a09", func := "partsong/partkeep.StampLong", spec := "stampLong", unfollowed := true, recurses := true, apart := false, narrowed := true }
def StampLongUptoSaid : Prop := stampLongUptoRow.holds Try.pinned (OpenSpec.upto stampLongSpec)

/-- 'partkeep.CutGrows', WHERE WHAT IT READS IS OF BULK AT MOST 1048576: true; the input reads as it did. -/
def cutGrowsUptoRow : OpenClaim := { program := "ytibpibbnnogdkaa", sum := "99bf429f0dce26225f7ee76cf6e588c6906ea6fe16baae310f8625f3d4ce4a09", func := "partsong/partkeep.CutGrows", spec := "cutGrows", apart := false, narrowed := true }
def CutGrowsUptoSaid : Prop := cutGrowsUptoRow.holds Try.pinned (OpenSpec.upto cutGrowsSpec)

/-- 'partkeep.VectTells', WHERE WHAT IT READS IS OF BULK AT MOST 1048576: true; the input reads as it did. -/
def vectTellsUptoRow : OpenClaim := { program := "ytibpibbnnogdkaa", sum := "99bf429f0dce26225f7ee76cf6e588c6906ea6fe16baae310f8625f3d4ce4a09", func := "partsong/partkeep.VectTells", spec := "vectTells", apart := false, narrowed := true }
def VectTellsUptoSaid : Prop := vectTellsUptoRow.holds Try.pinned (OpenSpec.upto vectTellsSpec)

/-- 'partkeep.CutMeets', WHERE WHAT IT READS IS OF BULK AT MOST 1048576: true; the input reads as it did. -/
def cutMeetsUptoRow : OpenClaim := { program := "ytibpibbnnogdkaa", sum := "99bf429f0dce26225f7ee76cf6e588c6906ea6fe16baae310f8625f3d4ce4a09", func := "partsong/partkeep.CutMeets", spec := "cutMeets", apart := false, narrowed := true }
def CutMeetsUptoSaid : Prop := cutMeetsUptoRow.holds Try.pinned (OpenSpec.upto cutMeetsSpec)

/-- 'partkeep.CutShrinks', WHERE WHAT IT READS IS OF BULK AT MOST 1048576: true; the input reads as it did. -/
def cutShrinksUptoRow : OpenClaim := { program := "ytibpibbnnogdkaa", sum := "99bf429f0dce26225f7ee76cf6e588c6906ea6fe16baae310f8625f3d4ce4a09", func := "partsong/partkeep.CutShrinks", spec := "cutShrinks", apart := false, narrowed := true }
def CutShrinksUptoSaid : Prop := cutShrinksUptoRow.holds Try.pinned (OpenSpec.upto cutShrinksSpec)

/-- 'partkeep.CutMany', WHERE WHAT IT READS IS OF BULK AT MOST 1048576: true; the input reads as it did. -/
def cutManyUptoRow : OpenClaim := { program := "ytibpibbnnogdkaa", sum := "99bf429f0dce26225f7ee76cf6e588c6906ea6fe16baae310f8625f3d4ce4a09", func := "partsong/partkeep.CutMany", spec := "cutMany", unfollowed := true, recurses := true, apart := false, narrowed := true }
def CutManyUptoSaid : Prop := cutManyUptoRow.holds Try.pinned (OpenSpec.upto cutManySpec)

/-- 'partkeep.CutSteps', WHERE WHAT IT READS IS OF BULK AT MOST 1048576: true; the input reads as it did. -/
def cutStepsUptoRow : OpenClaim := { program := "ytibpibbnnogdkaa", sum := "99bf429f0dce26225f7ee76cf6e588c6906ea6fe16baae310f8625f3d4ce4a09", func := "partsong/partkeep.CutSteps", spec := "cutSteps", apart := false, narrowed := true }
def CutStepsUptoSaid : Prop := cutStepsUptoRow.holds Try.pinned (OpenSpec.upto cutStepsSpec)

end Rows
end Go.Proofs.Ytibpibbnnogdkaa
