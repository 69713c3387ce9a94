/-
  No cell of these rows narrows 'for every input' (looked for: loops, veiled, ifaces, maps, wideKeys, modest, calm, conditions, laid).
  DERIVED. THE GIVEN ROWS OF THIS SEAT. 12 by the template 'for every input the law returns true; each argument reads behind the call as it read before'; 0 by the template 'total and deterministic' (their statements: YtagjonjobbckdaaTotals.lean).
  GIVEN WITH THE SEED: the statements are not yours to turn. If you find one false, say at which input.
  Laid BY PROGRAM, IN A SANDBOX (cutbox-rows.mjs): the forced cells as the released guide's own fill.sh prints them over the translation db495b6b5f204974… (all of the seat's roots in one cut). By AI agents, Wed Nov 11 2026. No macro, syntax, notation, axiom, sorry.
-/
import Derived.Test.YtagjonjobbckdaaChecked
import GoSem.Claim
import GoSem.ClaimJoined
import GoSem.ClaimMapViews
import Derived.JoinedTies
import Derived.KernelRfl
namespace Go.Proofs.Ytagjonjobbckdaa
/- THE CELL 'sum', in the pinned program and in every row, IS THE sha256 OF THE DUMP (.gsa) THAT YtagjonjobbckdaaProg.lean LOADS. Nothing in Lean hashes anything: it is a label: what it is worth is what the hold of that sum in a sandbox is worth. -/
noncomputable def Try.pinned : Pinned := { name := "ytagjonjobbckdaa", sum := "db495b6b5f204974aae5a2e9f6f09b97b9cdfd8207bdd7d06b99a7031eef1dd6", checked := Try.checked }
namespace Rows
def none {H : Type} : Left H := { results := [], args := [] }

/-- 'partkeep.WireLinear': WHATEVER THE INPUT: true; the input reads as it did. -/
def wireLinearSpec : ChangeSpec := { name := "wireLinear", fn := fun _ => fun
  | [d1, d2, d3] => { results := [.lit (.bool true)], args := [d1, d2, d3] }
  | _ => none }
def wireLinearRow : OpenClaim := { program := "ytagjonjobbckdaa", sum := "db495b6b5f204974aae5a2e9f6f09b97b9cdfd8207bdd7d06b99a7031eef1dd6", func := "partsong/partkeep.WireLinear", spec := "wireLinear", apart := false }
def WireLinearSaid : Prop := wireLinearRow.holds Try.pinned (OpenSpec.ofChange wireLinearSpec)

/-- ITS FALSE NEIGHBOUR: 'it returns false'. Refute it at one input. -/
def wireLinearWrong : ChangeSpec := { name := "wireLinear", fn := fun _ => fun
  | [d1, d2, d3] => { results := [.lit (.bool false)], args := [d1, d2, d3] }
  | _ => none }
def WireLinearWrongFalsely : Prop := wireLinearRow.holds Try.pinned (OpenSpec.ofChange wireLinearWrong)

/-- 'partkeep.ViewMeets': WHATEVER THE INPUT: true; the input reads as it did. -/
def viewMeetsSpec : ChangeSpec := { name := "viewMeets", fn := fun _ => fun
  | [d1, d2, d3] => { results := [.lit (.bool true)], args := [d1, d2, d3] }
  | _ => none }
def viewMeetsRow : OpenClaim := { program := "ytagjonjobbckdaa", sum := "db495b6b5f204974aae5a2e9f6f09b97b9cdfd8207bdd7d06b99a7031eef1dd6", func := "partsong/partkeep.ViewMeets", spec := "viewMeets", apart := false }
def ViewMeetsSaid : Prop := viewMeetsRow.holds Try.pinned (OpenSpec.ofChange viewMeetsSpec)

/-- ITS FALSE NEIGHBOUR: 'it returns false'. Refute it at one input. -/
def viewMeetsWrong : ChangeSpec := { name := "viewMeets", fn := fun _ => fun
  | [d1, d2, d3] => { results := [.lit (.bool false)], args := [d1, d2, d3] }
  | _ => none }
def ViewMeetsWrongFalsely : Prop := viewMeetsRow.holds Try.pinned (OpenSpec.ofChange viewMeetsWrong)

/-- 'partkeep.VectLaws': WHATEVER THE INPUT: true; the input reads as it did. -/
def vectLawsSpec : ChangeSpec := { name := "vectLaws", fn := fun _ => fun
  | [d1, d2, d3] => { results := [.lit (.bool true)], args := [d1, d2, d3] }
  | _ => none }
def vectLawsRow : OpenClaim := { program := "ytagjonjobbckdaa", sum := "db495b6b5f204974aae5a2e9f6f09b97b9cdfd8207bdd7d06b99a7031eef1dd6", func := "partsong/partkeep.VectLaws", spec := "vectLaws", apart := false }
def VectLawsSaid : Prop := vectLawsRow.holds Try.pinned (OpenSpec.ofChange vectLawsSpec)

/-- ITS FALSE NEIGHBOUR: 'it returns false'. Refute it at one input. -/
def vectLawsWrong : ChangeSpec := { name := "vectLaws", fn := fun _ => fun
  | [d1, d2, d3] => { results := [.lit (.bool false)], args := [d1, d2, d3] }
  | _ => none }
def VectLawsWrongFalsely : Prop := vectLawsRow.holds Try.pinned (OpenSpec.ofChange vectLawsWrong)

/-- 'partkeep.PulseLead': WHATEVER THE INPUT: true; the input reads as it did. -/
def pulseLeadSpec : ChangeSpec := { name := "pulseLead", fn := fun _ => fun
  | [d1, d2] => { results := [.lit (.bool true)], args := [d1, d2] }
  | _ => none }
def pulseLeadRow : OpenClaim := { program := "ytagjonjobbckdaa", sum := "db495b6b5f204974aae5a2e9f6f09b97b9cdfd8207bdd7d06b99a7031eef1dd6", func := "partsong/partkeep.PulseLead", spec := "pulseLead", apart := false }
def PulseLeadSaid : Prop := pulseLeadRow.holds Try.pinned (OpenSpec.ofChange pulseLeadSpec)

/-- ITS FALSE NEIGHBOUR: 'it returns false'. Refute it at one input. -/
def pulseLeadWrong : ChangeSpec := { name := "pulseLead", fn := fun _ => fun
  | [d1, d2] => { results := [.lit (.bool false)], args := [d1, d2] }
  | _ => none }
def PulseLeadWrongFalsely : Prop := pulseLeadRow.holds Try.pinned (OpenSpec.ofChange pulseLeadWrong)

/-- 'partkeep.ViewSplit': WHATEVER THE INPUT: true; the input reads as it did. -/
def viewSplitSpec : ChangeSpec := { name := "viewSplit", fn := fun _ => fun
  | [d1, d2] => { results := [.lit (.bool true)], args := [d1, d2] }
  | _ => none }
def viewSplitRow : OpenClaim := { program := "ytagjonjobbckdaa", sum := "db495b6b5f204974aae5a2e9f6f09b97b9cdfd8207bdd7d06b99a7031eef1dd6", func := "partsong/partkeep.ViewSplit", spec := "viewSplit", apart := false }
def ViewSplitSaid : Prop := viewSplitRow.holds Try.pinned (OpenSpec.ofChange viewSplitSpec)

/-- ITS FALSE NEIGHBOUR: 'it returns false'. Refute it at one input. -/
def viewSplitWrong : ChangeSpec := { name := "viewSplit", fn := fun _ => fun
  | [d1, d2] => { results := [.lit (.bool false)], args := [d1, d2] }
  | _ => none }
def ViewSplitWrongFalsely : Prop := viewSplitRow.holds Try.pinned (OpenSpec.ofChange viewSplitWrong)

/-- 'partkeep.ViewLine': WHATEVER THE INPUT: true; the input reads as it did. -/
def viewLineSpec : ChangeSpec := { name := "viewLine", fn := fun _ => fun
  | [d1, d2] => { results := [.lit (.bool true)], args := [d1, d2] }
  | _ => none }
def viewLineRow : OpenClaim := { program := "ytagjonjobbckdaa", sum := "db495b6b5f204974aae5a2e9f6f09b97b9cdfd8207bdd7d06b99a7031eef1dd6", func := "partsong/partkeep.ViewLine", spec := "viewLine", apart := false }
def ViewLineSaid : Prop := viewLineRow.holds Try.pinned (OpenSpec.ofChange viewLineSpec)

/-- ITS FALSE NEIGHBOUR: 'it returns false'. Refute it at one input. -/
def viewLineWrong : ChangeSpec := { name := "viewLine", fn := fun _ => fun
  | [d1, d2] => { results := [.lit (.bool false)], args := [d1, d2] }
  | _ => none }
def ViewLineWrongFalsely : Prop := viewLineRow.holds Try.pinned (OpenSpec.ofChange viewLineWrong)

/-- 'partkeep.ViewNext': WHATEVER THE INPUT: true; the input reads as it did. -/
def viewNextSpec : ChangeSpec := { name := "viewNext", fn := fun _ => fun
  | [d1, d2, d3] => { results := [.lit (.bool true)], args := [d1, d2, d3] }
  | _ => none }
def viewNextRow : OpenClaim := { program := "ytagjonjobbckdaa", sum := "db495b6b5f204974aae5a2e9f6f09b97b9cdfd8207bdd7d06b99a7031eef1dd6", func := "partsong/partkeep.ViewNext", spec := "viewNext", apart := false }
def ViewNextSaid : Prop := viewNextRow.holds Try.pinned (OpenSpec.ofChange viewNextSpec)

/-- ITS FALSE NEIGHBOUR: 'it returns false'. Refute it at one input. -/
def viewNextWrong : ChangeSpec := { name := "viewNext", fn := fun _ => fun
  | [d1, d2, d3] => { results := [.lit (.bool false)], args := [d1, d2, d3] }
  | _ => none }
def ViewNextWrongFalsely : Prop := viewNextRow.holds Try.pinned (OpenSpec.ofChange viewNextWrong)

/-- 'partkeep.PulseDead': WHATEVER THE INPUT: true; the input reads as it did. -/
def pulseDeadSpec : ChangeSpec := { name := "pulseDead", fn := fun _ => fun
  | [d1, d2, d3] => { results := [.lit (.bool true)], args := [d1, d2, d3] }
  | _ => none }
def pulseDeadRow : OpenClaim := { program := "ytagjonjobbckdaa", sum := "db495b6b5f204974aae5a2e9f6f09b97b9cdfd8207bdd7d06b99a7031eef1dd6", func := "partsong/partkeep.PulseDead", spec := "pulseDead", apart := false }
def PulseDeadSaid : Prop := pulseDeadRow.holds Try.pinned (OpenSpec.ofChange pulseDeadSpec)

/-- ITS FALSE NEIGHBOUR: 'it returns false'. Refute it at one input. -/
def pulseDeadWrong : ChangeSpec := { name := "pulseDead", fn := fun _ => fun
  | [d1, d2, d3] => { results := [.lit (.bool false)], args := [d1, d2, d3] }
  | _ => none }
def PulseDeadWrongFalsely : Prop := pulseDeadRow.holds Try.pinned (OpenSpec.ofChange pulseDeadWrong)

/-- 'partkeep.PulseFew': WHATEVER THE INPUT: true; the input reads as it did. -/
def pulseFewSpec : ChangeSpec := { name := "pulseFew", fn := fun _ => fun
  | [d1, d2, d3] => { results := [.lit (.bool true)], args := [d1, d2, d3] }
  | _ => none }
def pulseFewRow : OpenClaim := { program := "ytagjonjobbckdaa", sum := "db495b6b5f204974aae5a2e9f6f09b97b9cdfd8207bdd7d06b99a7031eef1dd6", func := "partsong/partkeep.PulseFew", spec := "pulseFew", apart := false }
def PulseFewSaid : Prop := pulseFewRow.holds Try.pinned (OpenSpec.ofChange pulseFewSpec)

/-- ITS FALSE NEIGHBOUR: 'it returns false'. Refute it at one input. -/
def pulseFewWrong : ChangeSpec := { name := "pulseFew", fn := fun _ => fun
  | [d1, d2, d3] => { results := [.lit (.bool false)], args := [d1, d2, d3] }
  | _ => none }
def PulseFewWrongFalsely : Prop := pulseFewRow.holds Try.pinned (OpenSpec.ofChange pulseFewWrong)

/-- 'partkeep.WireBack': WHATEVER THE INPUT: true; the input reads as it did. -/
def wireBackSpec : ChangeSpec := { name := "wireBack", fn := fun _ => fun
  | [d1, d2] => { results := [.lit (.bool true)], args := [d1, d2] }
  | _ => none }
def wireBackRow : OpenClaim := { program := "ytagjonjobbckdaa", sum := "db495b6b5f204974aae5a2e9f6f09b97b9cdfd8207bdd7d06b99a7031eef1dd6", func := "partsong/partkeep.WireBack", spec := "wireBack", unfollowed := true, recurses := true, apart := false }
def WireBackSaid : Prop := wireBackRow.holds Try.pinned (OpenSpec.ofChange wireBackSpec)

/-- ITS FALSE NEIGHBOUR: 'it returns false'. Refute it at one input. -/
def wireBackWrong : ChangeSpec := { name := "wireBack", fn := fun _ => fun
  | [d1, d2] => { results := [.lit (.bool false)], args := [d1, d2] }
  | _ => none }
def WireBackWrongFalsely : Prop := wireBackRow.holds Try.pinned (OpenSpec.ofChange wireBackWrong)

/-- 'partkeep.WireBursts': WHATEVER THE INPUT: true; the input reads as it did. -/
def wireBurstsSpec : ChangeSpec := { name := "wireBursts", fn := fun _ => fun
  | [d1, d2, d3] => { results := [.lit (.bool true)], args := [d1, d2, d3] }
  | _ => none }
def wireBurstsRow : OpenClaim := { program := "ytagjonjobbckdaa", sum := "db495b6b5f204974aae5a2e9f6f09b97b9cdfd8207bdd7d06b99a7031eef1dd6", func := "partsong/partkeep.WireBursts", spec := "wireBursts", unfollowed := true, recurses := true, apart := false }
def WireBurstsSaid : Prop := wireBurstsRow.holds Try.pinned (OpenSpec.ofChange wireBurstsSpec)

/-- ITS FALSE NEIGHBOUR: 'it returns false'. Refute it at one input. -/
def wireBurstsWrong : ChangeSpec := { name := "wireBursts", fn := fun _ => fun
  | [d1, d2, d3] => { results := [.lit (.bool false)], args := [d1, d2, d3] }
  | _ => none }
def WireBurstsWrongFalsely : Prop := wireBurstsRow.holds Try.pinned (OpenSpec.ofChange wireBurstsWrong)

/-- 'partkeep.WireFew': WHATEVER THE INPUT: true; the input reads as it did. -/
def wireFewSpec : ChangeSpec := { name := "wireFew", fn := fun _ => fun
  | [d1, d2] => { results := [.lit (.bool true)], args := [d1, d2] }
  | _ => none }
def wireFewRow : OpenClaim := { program := "ytagjonjobbckdaa", sum := "db495b6b5f204974aae5a2e9f6f09b97b9cdfd8207bdd7d06b99a7031eef1dd6", func := "partsong/partkeep.WireFew", spec := "wireFew", unfollowed := true, recurses := true, apart := false }
def WireFewSaid : Prop := wireFewRow.holds Try.pinned (OpenSpec.ofChange wireFewSpec)

/-- ITS FALSE NEIGHBOUR: 'it returns false'. Refute it at one input. -/
def wireFewWrong : ChangeSpec := { name := "wireFew", fn := fun _ => fun
  | [d1, d2] => { results := [.lit (.bool false)], args := [d1, d2] }
  | _ => none }
def WireFewWrongFalsely : Prop := wireFewRow.holds Try.pinned (OpenSpec.ofChange wireFewWrong)

/- THE SECOND FORM. 'bulk': how many values and letters a reading holds, each counted each time it is reached (what is shared counts as often as it is met; a slice's spare places count too). A statement '..UptoSaid' is the law's where the arguments, and the package variables that the reading takes, are together of bulk at most 1048576: NARROWER than '..Said'. Prove '..Said' where nothing that the law and all that it calls make is longer than what came in: it says more and counts as full. Else prove '..UptoSaid'. A law counts once. -/
mutual
def uptoBulk {H : Type} : DataW H → Nat
  | .lit (.string bytes) => bytes.length + 1
  | .lit _ => 1
  | .nil => 1
  | .ptr d => uptoBulk d + 1
  | .slice elems spare => uptoBulkAll elems + uptoBulkAll spare + 1
  | .agg parts => uptoBulkAll parts + 1
  | .iface _ d => uptoBulk d + 1
  | .map entries => uptoBulkEntries entries + 1
  | .held _ => 1
def uptoBulkAll {H : Type} : List (DataW H) → Nat
  | [] => 0
  | d :: r => uptoBulk d + uptoBulkAll r
def uptoBulkEntries {H : Type} : List (Lit × DataW H) → Nat
  | [] => 0
  | x :: r => uptoBulkEntry x + uptoBulkEntries r
def uptoBulkEntry {H : Type} : Lit × DataW H → Nat
  | (.string bytes, d) => bytes.length + uptoBulk d + 1
  | (_, d) => uptoBulk d + 1
 end
def uptoSmall : (H : Type) → List (DataW H) → Bool := fun _ ds => decide (uptoBulkAll ds ≤ 1048576)
def OpenSpec.upto (s : _root_.Go.ChangeSpec) : _root_.Go.OpenSpec := { _root_.Go.OpenSpec.ofChange s with cond := some uptoSmall }

/-- 'partkeep.WireLinear', WHERE WHAT IT READS IS OF BULK AT MOST 1048576: true; the input reads as it did. -/
def wireLinearUptoRow : OpenClaim := { program := "ytagjonjobbckdaa", sum := "db495b6b5f204974aae5a2e9f6f09b97b9cdfd8207bdd7d06b99a7031eef1dd6", func := "partsong/partkeep.WireLinear", spec := "wireLinear", apart := false, narrowed := true }
def WireLinearUptoSaid : Prop := wireLinearUptoRow.holds Try.pinned (OpenSpec.upto wireLinearSpec)

/-- 'partkeep.ViewMeets', WHERE WHAT IT READS IS OF BULK AT MOST 1048576: true; the input reads as it did. -/
def viewMeetsUptoRow : OpenClaim := { program := "ytagjonjobbckdaa", sum := "db495b6b5f204974aae5a2e9f6f09b97b9cdfd8207bdd7d06b99a7031eef1dd6", func := "partsong/partkeep.ViewMeets", spec := "viewMeets", apart := false, narrowed := true }
def ViewMeetsUptoSaid : Prop := viewMeetsUptoRow.holds Try.pinned (OpenSpec.upto viewMeetsSpec)

/-- 'partkeep.VectLaws', WHERE WHAT IT READS IS OF BULK AT MOST 1048576: true; the input reads as it did. -/
def vectLawsUptoRow : OpenClaim := { program := "ytagjonjobbckdaa", sum := "db495b6b5f204974aae5a2e9f6f09b97b9cdfd8207bdd7d06b99a7031eef1dd6", func := "partsong/partkeep.VectLaws", spec := "vectLaws", apart := false, narrowed := true }
def VectLawsUptoSaid : Prop := vectLawsUptoRow.holds Try.pinned (OpenSpec.upto vectLawsSpec)

/-- 'partkeep.PulseLead', WHERE WHAT IT READS IS OF BULK AT MOST 1048576: true; the input reads as it did. -/
def pulseLeadUptoRow : OpenClaim := { program := "ytagjonjobbckdaa", sum := "db495b6b5f204974aae5a2e9f6f09b97b9cdfd8207bdd7d06b99a7031eef1dd6", func := "partsong/partkeep.PulseLead", spec := "pulseLead", apart := false, narrowed := true }
def PulseLeadUptoSaid : Prop := pulseLeadUptoRow.holds Try.pinned (OpenSpec.upto pulseLeadSpec)

/-- 'partkeep.ViewSplit', WHERE WHAT IT READS IS OF BULK AT MOST 1048576: true; the input reads as it did. -/
def viewSplitUptoRow : OpenClaim := { program := "ytagjonjobbckdaa", sum := "db495b6b5f204974aae5a2e9f6f09b97b9cdfd8207bdd7d06b99a7031eef1dd6", func := "partsong/partkeep.ViewSplit", spec := "viewSplit", apart := false, narrowed := true }
def ViewSplitUptoSaid : Prop := viewSplitUptoRow.holds Try.pinned (OpenSpec.upto viewSplitSpec)

/-- 'partkeep.ViewLine', WHERE WHAT IT READS IS OF BULK AT MOST 1048576: true; the input reads as it did. -/
def viewLineUptoRow : OpenClaim := { program := "ytagjonjobbckdaa", sum := "db495b6b5f204974aae5a2e9f6f09b97b9cdfd8207bdd7d06b99a7031eef1dd6", func := "partsong/partkeep.ViewLine", spec := "viewLine", apart := false, narrowed := true }
def ViewLineUptoSaid : Prop := viewLineUptoRow.holds Try.pinned (OpenSpec.upto viewLineSpec)

/-- 'partkeep.ViewNext', WHERE WHAT IT READS IS OF BULK AT MOST 1048576: true; the input reads as it did. -/
def viewNextUptoRow : OpenClaim := { program := "ytagjonjobbckdaa", sum := "db495b6b5f204974aae5a2e9f6f09b97b9cdfd8207bdd7d06b99a7031eef1dd6", func := "partsong/partkeep.ViewNext", spec := "viewNext", apart := false, narrowed := true }
def ViewNextUptoSaid : Prop := viewNextUptoRow.holds Try.pinned (OpenSpec.upto viewNextSpec)

/-- 'partkeep.PulseDead', WHERE WHAT IT READS IS OF BULK AT MOST 1048576: true; the input reads as it did. -/
def pulseDeadUptoRow : OpenClaim := { program := "ytagjonjobbckdaa", sum := "db495b6b5f204974aae5a2e9f6f09b97b9cdfd8207bdd7d06b99a7031eef1dd6", func := "partsong/partkeep.PulseDead", spec := "pulseDead", apart := false, narrowed := true }
def PulseDeadUptoSaid : Prop := pulseDeadUptoRow.holds Try.pinned (OpenSpec.upto pulseDeadSpec)

/-- 'partkeep.PulseFew', WHERE WHAT IT READS IS OF BULK AT MOST 1048576: true; the input reads as it did. -/
def pulseFewUptoRow : OpenClaim := { program := "ytagjonjobbckdaa", sum := "db495b6b5f204974aae5a2e9f6f09b97b9cdfd8207bdd7d06b99a7031eef1dd6", func := "partsong/partkeep.PulseFew", spec := "pulseFew", apart := false, narrowed := true }
def PulseFewUptoSaid : Prop := pulseFewUptoRow.holds Try.pinned (OpenSpec.upto pulseFewSpec)

/-- 'partkeep.WireBack', WHERE WHAT IT READS IS OF BULK AT MOST 1048576: true; the input reads as it did. -/
def wireBackUptoRow : OpenClaim := { program := "ytagjonjobbckdaa", sum := "db495b6b5f204974aae5a2e9f6f09b97b9cdfd8207bdd7d06b99a7031eef1dd6", func := "partsong/partkeep.WireBack", spec := "wireBack", unfollowed := true, recurses := true, apart := false, narrowed := true }
def WireBackUptoSaid : Prop := wireBackUptoRow.holds Try.pinned (OpenSpec.upto wireBackSpec)

/-- 'partkeep.WireBursts', WHERE WHAT IT READS IS OF BULK AT MOST 1048576: true; the input reads as it did. -/
def wireBurstsUptoRow : OpenClaim := { program := "ytagjonjobbckdaa", sum := "db495b6b5f204974aae5a2e9f6f09b97b9cdfd8207bdd7d06b99a7031eef1dd6", func := "partsong/partkeep.WireBursts", spec := "wireBursts", unfollowed := true, recurses := true, apart := false, narrowed := true }
def WireBurstsUptoSaid : Prop := wireBurstsUptoRow.holds Try.pinned (OpenSpec.upto wireBurstsSpec)

/-- 'partkeep.WireFew', WHERE WHAT IT READS IS OF BULK AT MOST 1048576: true; the input reads as it did. -/
def wireFewUptoRow : OpenClaim := { program := "ytagjonjobbckdaa", sum := "db495b6b5f204974aae5a2e9f6f09b97b9cdfd8207bdd7d06b99a7031eef1dd6", func := "partsong/partkeep.WireFew", spec := "wireFew", unfollowed := true, recurses := true, apart := false, narrowed := true }
def WireFewUptoSaid : Prop := wireFewUptoRow.holds Try.pinned (OpenSpec.upto wireFewSpec)

end Rows
end Go.Proofs.Ytagjonjobbckdaa
