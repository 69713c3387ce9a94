/-
  No cell of these rows narrows 'for every input' (looked for: loops, veiled, ifaces, maps, wideKeys, modest, calm, conditions, laid).
  DERIVED. THE GIVEN ROWS OF THIS SEAT. 3 by the template 'for every input the law returns true; each argument reads behind the call as it read before'; 0 by the template 'total and deterministic' (their statements: YtgmbfnlhmnpciaaTotals.lean).
  GIVEN WITH THE SEED: the statements are not yours to turn. If you find one false, say at which input.
  Laid BY PROGRAM, IN A SANDBOX (cutbox-rows.mjs): the forced cells as the released guide's own fill.sh prints them over the translation e58a0ba2b766e816… (all of the seat's roots in one cut). By AI agents, Wed Nov 11 2026. No macro, syntax, notation, axiom, sorry.
-/
import Derived.Test.YtgmbfnlhmnpciaaChecked
import GoSem.Claim
import GoSem.ClaimJoined
import GoSem.ClaimMapViews
import Derived.JoinedTies
import Derived.KernelRfl
namespace Go.Proofs.Ytgmbfnlhmnpciaa
/- THE CELL 'sum', in the pinned program and in every row, IS THE sha256 OF THE DUMP (.gsa) THAT YtgmbfnlhmnpciaaProg.lean LOADS. Nothing in Lean hashes anything: it is a label: what it is worth is what the hold of that sum in a sandbox is worth. -/
noncomputable def Try.pinned : Pinned := { name := "ytgmbfnlhmnpciaa", sum := "e58a0ba2b766e81630b2d4db6a992bd96b7238c4071020a2057660b081d12bea", checked := Try.checked }
namespace Rows
def none {H : Type} : Left H := { results := [], args := [] }

/-- 'parttop.TopPicture': WHATEVER THE INPUT: true; the input reads as it did. -/
def topPictureSpec : ChangeSpec := { name := "topPicture", fn := fun _ => fun
  | [d1, d2, d3] => { results := [.lit (.bool true)], args := [d1, d2, d3] }
  | _ => none }
def topPictureRow : OpenClaim := { program := "ytgmbfnlhmnpciaa", sum := "e58a0ba2b766e81630b2d4db6a992bd96b7238c4071020a2057660b081d12bea", func := "partsong/parttop.TopPicture", spec := "topPicture", unfollowed := true, recurses := true, apart := false }
def TopPictureSaid : Prop := topPictureRow.holds Try.pinned (OpenSpec.ofChange topPictureSpec)

/-- ITS FALSE NEIGHBOUR: 'it returns false'. Refute it at one input. -/
def topPictureWrong : ChangeSpec := { name := "topPicture", fn := fun _ => fun
  | [d1, d2, d3] => { results := [.lit (.bool false)], args := [d1, d2, d3] }
  | _ => none }
def TopPictureWrongFalsely : Prop := topPictureRow.holds Try.pinned (OpenSpec.ofChange topPictureWrong)

/-- 'parttop.TopAnswers': WHATEVER THE INPUT: true; the input reads as it did. -/
def topAnswersSpec : ChangeSpec := { name := "topAnswers", fn := fun _ => fun
  | [d1, d2, d3] => { results := [.lit (.bool true)], args := [d1, d2, d3] }
  | _ => none }
def topAnswersRow : OpenClaim := { program := "ytgmbfnlhmnpciaa", sum := "e58a0ba2b766e81630b2d4db6a992bd96b7238c4071020a2057660b081d12bea", func := "partsong/parttop.TopAnswers", spec := "topAnswers", unfollowed := true, recurses := true, apart := false }
def TopAnswersSaid : Prop := topAnswersRow.holds Try.pinned (OpenSpec.ofChange topAnswersSpec)

/-- ITS FALSE NEIGHBOUR: 'it returns false'. Refute it at one input. -/
def topAnswersWrong : ChangeSpec := { name := "topAnswers", fn := fun _ => fun
  | [d1, d2, d3] => { results := [.lit (.bool false)], args := [d1, d2, d3] }
  | _ => none }
def TopAnswersWrongFalsely : Prop := topAnswersRow.holds Try.pinned (OpenSpec.ofChange topAnswersWrong)

/-- 'partkeep.StampTotal': WHATEVER THE INPUT: true; the input reads as it did. -/
def stampTotalSpec : ChangeSpec := { name := "stampTotal", fn := fun _ => fun
  | [d] => { results := [.lit (.bool true)], args := [d] }
  | _ => none }
def stampTotalRow : OpenClaim := { program := "ytgmbfnlhmnpciaa", sum := "e58a0ba2b766e81630b2d4db6a992bd96b7238c4071020a2057660b081d12bea", func := "partsong/partkeep.StampTotal", spec := "stampTotal", unfollowed := true, recurses := true, apart := false }
def StampTotalSaid : Prop := stampTotalRow.holds Try.pinned (OpenSpec.ofChange stampTotalSpec)

/-- ITS FALSE NEIGHBOUR: 'it returns false'. Refute it at one input. -/
def stampTotalWrong : ChangeSpec := { name := "stampTotal", fn := fun _ => fun
  | [d] => { results := [.lit (.bool false)], args := [d] }
  | _ => none }
def StampTotalWrongFalsely : Prop := stampTotalRow.holds Try.pinned (OpenSpec.ofChange stampTotalWrong)

/- THE SECOND FORM. 'bulk': how many values and letters a reading holds, each counted each time it is reached (what is shared counts as often as it is met; a slice's spare places count too). A statement '..UptoSaid' is the law's where the arguments, and the package variables that the reading takes, are together of bulk at most 1048576: NARROWER than '..Said'. Prove '..Said' where nothing that the law and all that it calls make is longer than what came in: it says more and counts as full. Else prove '..UptoSaid'. A law counts once. -/
mutual
def uptoBulk {H : Type} : DataW H → Nat
  | .lit (.string bytes) => bytes.length + 1
  | .lit _ => 1
  | .nil => 1
  | .ptr d => uptoBulk d + 1
  | .slice elems spare => uptoBulkAll elems + uptoBulkAll spare + 1
  | .agg parts => uptoBulkAll parts + 1
  | .iface _ d => uptoBulk d + 1
  | .map entries => uptoBulkEntries entries + 1
  | .held _ => 1
def uptoBulkAll {H : Type} : List (DataW H) → Nat
  | [] => 0
  | d :: r => uptoBulk d + uptoBulkAll r
def uptoBulkEntries {H : Type} : List (Lit × DataW H) → Nat
  | [] => 0
  | x :: r => uptoBulkEntry x + uptoBulkEntries r
def uptoBulkEntry {H : Type} : Lit × DataW H → Nat
  | (.string bytes, d) => bytes.length + uptoBulk d + 1
  | (_, d) => uptoBulk d + 1
 end
def uptoSmall : (H : Type) → List (DataW H) → Bool := fun _ ds => decide (uptoBulkAll ds ≤ 1048576)
def OpenSpec.upto (s : _root_.Go.ChangeSpec) : _root_.Go.OpenSpec := { _root_.Go.OpenSpec.ofChange s with cond := some uptoSmall }

/-- 'parttop.TopPicture', WHERE WHAT IT READS IS OF BULK AT MOST 1048576: true; the input reads as it did. -/
def topPictureUptoRow : OpenClaim := { program := "ytgmbfnlhmnpciaa", sum := "e58a0ba2b766e81630b2d4db6a992bd96b7238c4071020a2057660b081d12bea", func := "partsong/parttop.TopPicture", spec := "topPicture", unfollowed := true, recurses := true, apart := false, narrowed := true }
def TopPictureUptoSaid : Prop := topPictureUptoRow.holds Try.pinned (OpenSpec.upto topPictureSpec)

/-- 'parttop.TopAnswers', WHERE WHAT IT READS IS OF BULK AT MOST 1048576: true; the input reads as it did. -/
def topAnswersUptoRow : OpenClaim := { program := "ytgmbfnlhmnpciaa", sum := "e58a0ba2b766e81630b2d4db6a992bd96b7238c4071020a2057660b081d12bea", func := "partsong/parttop.TopAnswers", spec := "topAnswers", unfollowed := true, recurses := true, apart := false, narrowed := true }
def TopAnswersUptoSaid : Prop := topAnswersUptoRow.holds Try.pinned (OpenSpec.upto topAnswersSpec)

/-- 'partkeep.StampTotal', WHERE WHAT IT READS IS OF BULK AT MOST 1048576: true; the input reads as it did. -/
def stampTotalUptoRow : OpenClaim := { program := "ytgmbfnlhmnpciaa", sum := "e58a0ba2b766e81630b2d4db6a992bd96b7238c4071020a2057660b081d12bea", func := "partsong/partkeep.StampTotal", spec := "stampTotal", unfollowed := true, recurses := true, apart := false, narrowed := true }
def StampTotalUptoSaid : Prop := stampTotalUptoRow.holds Try.pinned (OpenSpec.upto stampTotalSpec)

end Rows
end Go.Proofs.Ytgmbfnlhmnpciaa
