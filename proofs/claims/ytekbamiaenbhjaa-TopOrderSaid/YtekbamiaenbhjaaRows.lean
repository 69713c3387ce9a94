/-
  No cell of these rows narrows 'for every input' (looked for: loops, veiled, ifaces, maps, wideKeys, modest, calm, conditions, laid).
  DERIVED. THE GIVEN ROWS OF THIS SEAT. 11 by the template 'for every input the law returns true; each argument reads behind the call as it read before'; 0 by the template 'total and deterministic' (their statements: YtekbamiaenbhjaaTotals.lean).
  GIVEN WITH THE SEED: the statements are not yours to turn. If you find one false, say at which input.
  Laid BY PROGRAM, IN A SANDBOX (cutbox-rows.mjs): the forced cells as the released guide's own fill.sh prints them over the translation 20fb5a765de2bc84… (all of the seat's roots in one cut). By AI agents, Wed Nov 11 2026. No macro, syntax, notation, axiom, sorry.
-/
import Derived.Test.YtekbamiaenbhjaaChecked
import GoSem.Claim
import GoSem.ClaimJoined
import GoSem.ClaimMapViews
import Derived.JoinedTies
import Derived.KernelRfl
namespace Go.Proofs.Ytekbamiaenbhjaa
/- THE CELL 'sum', in the pinned program and in every row, IS THE sha256 OF THE DUMP (.gsa) THAT YtekbamiaenbhjaaProg.lean LOADS. Nothing in Lean hashes anything: it is a label: what it is worth is what the hold of that sum in a sandbox is worth. -/
noncomputable def Try.pinned : Pinned := { name := "ytekbamiaenbhjaa", sum := "20fb5a765de2bc8491e7746858b31a29a498507955cc83e14f3db412fd24d1d9", checked := Try.checked }
namespace Rows
def none {H : Type} : Left H := { results := [], args := [] }

/-- 'partkeep.FlushKeeps': WHATEVER THE INPUT: true; the input reads as it did. -/
def flushKeepsSpec : ChangeSpec := { name := "flushKeeps", fn := fun _ => fun
  | [d1, d2, d3] => { results := [.lit (.bool true)], args := [d1, d2, d3] }
  | _ => none }
def flushKeepsRow : OpenClaim := { program := "ytekbamiaenbhjaa", sum := "20fb5a765de2bc8491e7746858b31a29a498507955cc83e14f3db412fd24d1d9", func := "partsong/partkeep.FlushKeeps", spec := "flushKeeps", apart := false }
def FlushKeepsSaid : Prop := flushKeepsRow.holds Try.pinned (OpenSpec.ofChange flushKeepsSpec)

/-- ITS FALSE NEIGHBOUR: 'it returns false'. Refute it at one input. -/
def flushKeepsWrong : ChangeSpec := { name := "flushKeeps", fn := fun _ => fun
  | [d1, d2, d3] => { results := [.lit (.bool false)], args := [d1, d2, d3] }
  | _ => none }
def FlushKeepsWrongFalsely : Prop := flushKeepsRow.holds Try.pinned (OpenSpec.ofChange flushKeepsWrong)

/-- 'partkeep.FlushOwn': WHATEVER THE INPUT: true; the input reads as it did. -/
def flushOwnSpec : ChangeSpec := { name := "flushOwn", fn := fun _ => fun
  | [d1, d2, d3] => { results := [.lit (.bool true)], args := [d1, d2, d3] }
  | _ => none }
def flushOwnRow : OpenClaim := { program := "ytekbamiaenbhjaa", sum := "20fb5a765de2bc8491e7746858b31a29a498507955cc83e14f3db412fd24d1d9", func := "partsong/partkeep.FlushOwn", spec := "flushOwn", apart := false }
def FlushOwnSaid : Prop := flushOwnRow.holds Try.pinned (OpenSpec.ofChange flushOwnSpec)

/-- ITS FALSE NEIGHBOUR: 'it returns false'. Refute it at one input. -/
def flushOwnWrong : ChangeSpec := { name := "flushOwn", fn := fun _ => fun
  | [d1, d2, d3] => { results := [.lit (.bool false)], args := [d1, d2, d3] }
  | _ => none }
def FlushOwnWrongFalsely : Prop := flushOwnRow.holds Try.pinned (OpenSpec.ofChange flushOwnWrong)

/-- 'parttop.TopOrder': WHATEVER THE INPUT: true; the input reads as it did. -/
def topOrderSpec : ChangeSpec := { name := "topOrder", fn := fun _ => fun
  | [d] => { results := [.lit (.bool true)], args := [d] }
  | _ => none }
def topOrderRow : OpenClaim := { program := "ytekbamiaenbhjaa", sum := "20fb5a765de2bc8491e7746858b31a29a498507955cc83e14f3db412fd24d1d9", func := "partsong/parttop.TopOrder", spec := "topOrder", unfollowed := true, recurses := true, apart := false }
def TopOrderSaid : Prop := topOrderRow.holds Try.pinned (OpenSpec.ofChange topOrderSpec)

/-- ITS FALSE NEIGHBOUR: 'it returns false'. Refute it at one input. -/
def topOrderWrong : ChangeSpec := { name := "topOrder", fn := fun _ => fun
  | [d] => { results := [.lit (.bool false)], args := [d] }
  | _ => none }
def TopOrderWrongFalsely : Prop := topOrderRow.holds Try.pinned (OpenSpec.ofChange topOrderWrong)

/-- 'partkeep.DoorsOwn': WHATEVER THE INPUT: true; the input reads as it did. -/
def doorsOwnSpec : ChangeSpec := { name := "doorsOwn", fn := fun _ => fun
  | [d1, d2, d3, d4] => { results := [.lit (.bool true)], args := [d1, d2, d3, d4] }
  | _ => none }
def doorsOwnRow : OpenClaim := { program := "ytekbamiaenbhjaa", sum := "20fb5a765de2bc8491e7746858b31a29a498507955cc83e14f3db412fd24d1d9", func := "partsong/partkeep.DoorsOwn", spec := "doorsOwn", unfollowed := true, recurses := true, apart := false }
def DoorsOwnSaid : Prop := doorsOwnRow.holds Try.pinned (OpenSpec.ofChange doorsOwnSpec)

/-- ITS FALSE NEIGHBOUR: 'it returns false'. Refute it at one input. -/
def doorsOwnWrong : ChangeSpec := { name := "doorsOwn", fn := fun _ => fun
  | [d1, d2, d3, d4] => { results := [.lit (.bool false)], args := [d1, d2, d3, d4] }
  | _ => none }
def DoorsOwnWrongFalsely : Prop := doorsOwnRow.holds Try.pinned (OpenSpec.ofChange doorsOwnWrong)

/-- 'partkeep.StampTotal': WHATEVER THE INPUT: true; the input reads as it did. -/
def stampTotalSpec : ChangeSpec := { name := "stampTotal", fn := fun _ => fun
  | [d] => { results := [.lit (.bool true)], args := [d] }
  | _ => none }
def stampTotalRow : OpenClaim := { program := "ytekbamiaenbhjaa", sum := "20fb5a765de2bc8491e7746858b31a29a498507955cc83e14f3db412fd24d1d9", func := "partsong/partkeep.StampTotal", spec := "stampTotal", unfollowed := true, recurses := true, apart := false }
def StampTotalSaid : Prop := stampTotalRow.holds Try.pinned (OpenSpec.ofChange stampTotalSpec)

/-- ITS FALSE NEIGHBOUR: 'it returns false'. Refute it at one input. -/
def stampTotalWrong : ChangeSpec := { name := "stampTotal", fn := fun _ => fun
  | [d] => { results := [.lit (.bool false)], args := [d] }
  | _ => none }
def StampTotalWrongFalsely : Prop := stampTotalRow.holds Try.pinned (OpenSpec.ofChange stampTotalWrong)

/-- 'partkeep.LaneOwn': WHATEVER THE INPUT: true; the input reads as it did. -/
def laneOwnSpec : ChangeSpec := { name := "laneOwn", fn := fun _ => fun
  | [d1, d2, d3, d4, d5] => { results := [.lit (.bool true)], args := [d1, d2, d3, d4, d5] }
  | _ => none }
def laneOwnRow : OpenClaim := { program := "ytekbamiaenbhjaa", sum := "20fb5a765de2bc8491e7746858b31a29a498507955cc83e14f3db412fd24d1d9", func := "partsong/partkeep.LaneOwn", spec := "laneOwn", inPlace := ["slices.overlaps[partsong/api.Parcel]"], unfollowed := true, recurses := true, apart := false }
def LaneOwnSaid : Prop := laneOwnRow.holds Try.pinned (OpenSpec.ofChange laneOwnSpec)

/-- ITS FALSE NEIGHBOUR: 'it returns false'. Refute it at one input. -/
def laneOwnWrong : ChangeSpec := { name := "laneOwn", fn := fun _ => fun
  | [d1, d2, d3, d4, d5] => { results := [.lit (.bool false)], args := [d1, d2, d3, d4, d5] }
  | _ => none }
def LaneOwnWrongFalsely : Prop := laneOwnRow.holds Try.pinned (OpenSpec.ofChange laneOwnWrong)

/-- 'partkeep.HistoryOwn': WHATEVER THE INPUT: true; the input reads as it did. -/
def historyOwnSpec : ChangeSpec := { name := "historyOwn", fn := fun _ => fun
  | [d1, d2, d3] => { results := [.lit (.bool true)], args := [d1, d2, d3] }
  | _ => none }
def historyOwnRow : OpenClaim := { program := "ytekbamiaenbhjaa", sum := "20fb5a765de2bc8491e7746858b31a29a498507955cc83e14f3db412fd24d1d9", func := "partsong/partkeep.HistoryOwn", spec := "historyOwn", unfollowed := true, recurses := true, apart := false }
def HistoryOwnSaid : Prop := historyOwnRow.holds Try.pinned (OpenSpec.ofChange historyOwnSpec)

/-- ITS FALSE NEIGHBOUR: 'it returns false'. Refute it at one input. -/
def historyOwnWrong : ChangeSpec := { name := "historyOwn", fn := fun _ => fun
  | [d1, d2, d3] => { results := [.lit (.bool false)], args := [d1, d2, d3] }
  | _ => none }
def HistoryOwnWrongFalsely : Prop := historyOwnRow.holds Try.pinned (OpenSpec.ofChange historyOwnWrong)

/-- 'partkeep.FlushSame': WHATEVER THE INPUT: true; the input reads as it did. -/
def flushSameSpec : ChangeSpec := { name := "flushSame", fn := fun _ => fun
  | [d1, d2] => { results := [.lit (.bool true)], args := [d1, d2] }
  | _ => none }
def flushSameRow : OpenClaim := { program := "ytekbamiaenbhjaa", sum := "20fb5a765de2bc8491e7746858b31a29a498507955cc83e14f3db412fd24d1d9", func := "partsong/partkeep.FlushSame", spec := "flushSame", recurses := true, apart := false }
def FlushSameSaid : Prop := flushSameRow.holds Try.pinned (OpenSpec.ofChange flushSameSpec)

/-- ITS FALSE NEIGHBOUR: 'it returns false'. Refute it at one input. -/
def flushSameWrong : ChangeSpec := { name := "flushSame", fn := fun _ => fun
  | [d1, d2] => { results := [.lit (.bool false)], args := [d1, d2] }
  | _ => none }
def FlushSameWrongFalsely : Prop := flushSameRow.holds Try.pinned (OpenSpec.ofChange flushSameWrong)

/-- 'partkeep.TurnOwn': WHATEVER THE INPUT: true; the input reads as it did. -/
def turnOwnSpec : ChangeSpec := { name := "turnOwn", fn := fun _ => fun
  | [d1, d2, d3, d4] => { results := [.lit (.bool true)], args := [d1, d2, d3, d4] }
  | _ => none }
def turnOwnRow : OpenClaim := { program := "ytekbamiaenbhjaa", sum := "20fb5a765de2bc8491e7746858b31a29a498507955cc83e14f3db412fd24d1d9", func := "partsong/partkeep.TurnOwn", spec := "turnOwn", unfollowed := true, recurses := true, apart := false }
def TurnOwnSaid : Prop := turnOwnRow.holds Try.pinned (OpenSpec.ofChange turnOwnSpec)

/-- ITS FALSE NEIGHBOUR: 'it returns false'. Refute it at one input. -/
def turnOwnWrong : ChangeSpec := { name := "turnOwn", fn := fun _ => fun
  | [d1, d2, d3, d4] => { results := [.lit (.bool false)], args := [d1, d2, d3, d4] }
  | _ => none }
def TurnOwnWrongFalsely : Prop := turnOwnRow.holds Try.pinned (OpenSpec.ofChange turnOwnWrong)

/-- 'partkeep.PairsOwn': WHATEVER THE INPUT: true; the input reads as it did. -/
def pairsOwnSpec : ChangeSpec := { name := "pairsOwn", fn := fun _ => fun
  | [d] => { results := [.lit (.bool true)], args := [d] }
  | _ => none }
def pairsOwnRow : OpenClaim := { program := "ytekbamiaenbhjaa", sum := "20fb5a765de2bc8491e7746858b31a29a498507955cc83e14f3db412fd24d1d9", func := "partsong/partkeep.PairsOwn", spec := "pairsOwn", unfollowed := true, recurses := true, apart := false }
def PairsOwnSaid : Prop := pairsOwnRow.holds Try.pinned (OpenSpec.ofChange pairsOwnSpec)

/-- ITS FALSE NEIGHBOUR: 'it returns false'. Refute it at one input. -/
def pairsOwnWrong : ChangeSpec := { name := "pairsOwn", fn := fun _ => fun
  | [d] => { results := [.lit (.bool false)], args := [d] }
  | _ => none }
def PairsOwnWrongFalsely : Prop := pairsOwnRow.holds Try.pinned (OpenSpec.ofChange pairsOwnWrong)

/-- 'partkeep.SetsOwn': WHATEVER THE INPUT: true; the input reads as it did. -/
def setsOwnSpec : ChangeSpec := { name := "setsOwn", fn := fun _ => fun
  | [d1, d2, d3, d4, d5] => { results := [.lit (.bool true)], args := [d1, d2, d3, d4, d5] }
  | _ => none }
def setsOwnRow : OpenClaim := { program := "ytekbamiaenbhjaa", sum := "20fb5a765de2bc8491e7746858b31a29a498507955cc83e14f3db412fd24d1d9", func := "partsong/partkeep.SetsOwn", spec := "setsOwn", unfollowed := true, recurses := true, apart := false }
def SetsOwnSaid : Prop := setsOwnRow.holds Try.pinned (OpenSpec.ofChange setsOwnSpec)

/-- ITS FALSE NEIGHBOUR: 'it returns false'. Refute it at one input. -/
def setsOwnWrong : ChangeSpec := { name := "setsOwn", fn := fun _ => fun
  | [d1, d2, d3, d4, d5] => { results := [.lit (.bool false)], args := [d1, d2, d3, d4, d5] }
  | _ => none }
def SetsOwnWrongFalsely : Prop := setsOwnRow.holds Try.pinned (OpenSpec.ofChange setsOwnWrong)

/- THE SECOND FORM. 'bulk': how many values and letters a reading holds, each counted each time it is reached (what is shared counts as often as it is met; a slice's spare places count too). A statement '..UptoSaid' is the law's where the arguments, and the package variables that the reading takes, are together of bulk at most 1048576: NARROWER than '..Said'. Prove '..Said' where nothing that the law and all that it calls make is longer than what came in: it says more and counts as full. Else prove '..UptoSaid'. A law counts once. -/
mutual
def uptoBulk {H : Type} : DataW H → Nat
  | .lit (.string bytes) => bytes.length + 1
  | .lit _ => 1
  | .nil => 1
  | .ptr d => uptoBulk d + 1
  | .slice elems spare => uptoBulkAll elems + uptoBulkAll spare + 1
  | .agg parts => uptoBulkAll parts + 1
  | .iface _ d => uptoBulk d + 1
  | .map entries => uptoBulkEntries entries + 1
  | .held _ => 1
def uptoBulkAll {H : Type} : List (DataW H) → Nat
  | [] => 0
  | d :: r => uptoBulk d + uptoBulkAll r
def uptoBulkEntries {H : Type} : List (Lit × DataW H) → Nat
  | [] => 0
  | x :: r => uptoBulkEntry x + uptoBulkEntries r
def uptoBulkEntry {H : Type} : Lit × DataW H → Nat
  | (.string bytes, d) => bytes.length + uptoBulk d + 1
  | (_, d) => uptoBulk d + 1
 end
def uptoSmall : (H : Type) → List (DataW H) → Bool := fun _ ds => decide (uptoBulkAll ds ≤ 1048576)
def OpenSpec.upto (s : _root_.Go.ChangeSpec) : _root_.Go.OpenSpec := { _root_.Go.OpenSpec.ofChange s with cond := some uptoSmall }

/-- 'partkeep.FlushKeeps', WHERE WHAT IT READS IS OF BULK AT MOST 1048576: true; the input reads as it did. -/
def flushKeepsUptoRow : OpenClaim := { program := "ytekbamiaenbhjaa", sum := "20fb5a765de2bc8491e7746858b31a29a498507955cc83e14f3db412fd24d1d9", func := "partsong/partkeep.FlushKeeps", spec := "flushKeeps", apart := false, narrowed := true }
def FlushKeepsUptoSaid : Prop := flushKeepsUptoRow.holds Try.pinned (OpenSpec.upto flushKeepsSpec)

/-- 'partkeep.FlushOwn', WHERE WHAT IT READS IS OF BULK AT MOST 1048576: true; the input reads as it did. -/
def flushOwnUptoRow : OpenClaim := { program := "ytekbamiaenbhjaa", sum := "20fb5a765de2bc8491e7746858b31a29a498507955cc83e14f3db412fd24d1d9", func := "partsong/partkeep.FlushOwn", spec := "flushOwn", apart := false, narrowed := true }
def FlushOwnUptoSaid : Prop := flushOwnUptoRow.holds Try.pinned (OpenSpec.upto flushOwnSpec)

/-- 'parttop.TopOrder', WHERE WHAT IT READS IS OF BULK AT MOST 1048576: true; the input reads as it did. -/
def topOrderUptoRow : OpenClaim := { program := "ytekbamiaenbhjaa", sum := "20fb5a765de2bc8491e7746858b31a29a498507955cc83e14f3db412fd24d1d9", func := "partsong/parttop.TopOrder", spec := "topOrder", unfollowed := true, recurses := true, apart := false, narrowed := true }
def TopOrderUptoSaid : Prop := topOrderUptoRow.holds Try.pinned (OpenSpec.upto topOrderSpec)

/-- 'partkeep.DoorsOwn', WHERE WHAT IT READS IS OF BULK AT MOST 1048576: true; the input reads as it did. -/
def doorsOwnUptoRow : OpenClaim := { program := "ytekbamiaenbhjaa", sum := "20fb5a765de2bc8491e7746858b31a29a498507955cc83e14f3db412fd24d1d9", func := "partsong/partkeep.DoorsOwn", spec := "doorsOwn", unfollowed := true, recurses := true, apart := false, narrowed := true }
def DoorsOwnUptoSaid : Prop := doorsOwnUptoRow.holds Try.pinned (OpenSpec.upto doorsOwnSpec)

/-- 'partkeep.StampTotal', WHERE WHAT IT READS IS OF BULK AT MOST 1048576: true; the input reads as it did. -/
def stampTotalUptoRow : OpenClaim := { program := "ytekbamiaenbhjaa", sum := "20fb5a765de2bc8491e7746858b31a29a498507955cc83e14f3db412fd24d1d9", func := "partsong/partkeep.StampTotal", spec := "stampTotal", unfollowed := true, recurses := true, apart := false, narrowed := true }
def StampTotalUptoSaid : Prop := stampTotalUptoRow.holds Try.pinned (OpenSpec.upto stampTotalSpec)

/-- 'partkeep.LaneOwn', WHERE WHAT IT READS IS OF BULK AT MOST 1048576: true; the input reads as it did. -/
def laneOwnUptoRow : OpenClaim := { program := "ytekbamiaenbhjaa", sum := "20fb5a765de2bc8491e7746858b31a29a498507955cc83e14f3db412fd24d1d9", func := "partsong/partkeep.LaneOwn", spec := "laneOwn", inPlace := ["slices.overlaps[partsong/api.Parcel]"], unfollowed := true, recurses := true, apart := false, narrowed := true }
def LaneOwnUptoSaid : Prop := laneOwnUptoRow.holds Try.pinned (OpenSpec.upto laneOwnSpec)

/-- 'partkeep.HistoryOwn', WHERE WHAT IT READS IS OF BULK AT MOST 1048576: true; the input reads as it did. -/
def historyOwnUptoRow : OpenClaim := { program := "ytekbamiaenbhjaa", sum := "20fb5a765de2bc8491e7746858b31a29a498507955cc83e14f3db412fd24d1d9", func := "partsong/partkeep.HistoryOwn", spec := "historyOwn", unfollowed := true, recurses := true, apart := false, narrowed := true }
def HistoryOwnUptoSaid : Prop := historyOwnUptoRow.holds Try.pinned (OpenSpec.upto historyOwnSpec)

/-- 'partkeep.FlushSame', WHERE WHAT IT READS IS OF BULK AT MOST 1048576: true; the input reads as it did. -/
def flushSameUptoRow : OpenClaim := { program := "ytekbamiaenbhjaa", sum := "20fb5a765de2bc8491e7746858b31a29a498507955cc83e14f3db412fd24d1d9", func := "partsong/partkeep.FlushSame", spec := "flushSame", recurses := true, apart := false, narrowed := true }
def FlushSameUptoSaid : Prop := flushSameUptoRow.holds Try.pinned (OpenSpec.upto flushSameSpec)

/-- 'partkeep.TurnOwn', WHERE WHAT IT READS IS OF BULK AT MOST 1048576: true; the input reads as it did. -/
def turnOwnUptoRow : OpenClaim := { program := "ytekbamiaenbhjaa", sum := "20fb5a765de2bc8491e7746858b31a29a498507955cc83e14f3db412fd24d1d9", func := "partsong/partkeep.TurnOwn", spec := "turnOwn", unfollowed := true, recurses := true, apart := false, narrowed := true }
def TurnOwnUptoSaid : Prop := turnOwnUptoRow.holds Try.pinned (OpenSpec.upto turnOwnSpec)

/-- 'partkeep.PairsOwn', WHERE WHAT IT READS IS OF BULK AT MOST 1048576: true; the input reads as it did. -/
def pairsOwnUptoRow : OpenClaim := { program := "ytekbamiaenbhjaa", sum := "20fb5a765de2bc8491e7746858b31a29a498507955cc83e14f3db412fd24d1d9", func := "partsong/partkeep.PairsOwn", spec := "pairsOwn", unfollowed := true, recurses := true, apart := false, narrowed := true }
def PairsOwnUptoSaid : Prop := pairsOwnUptoRow.holds Try.pinned (OpenSpec.upto pairsOwnSpec)

/-- 'partkeep.SetsOwn', WHERE WHAT IT READS IS OF BULK AT MOST 1048576: true; the input reads as it did. -/
def setsOwnUptoRow : OpenClaim := { program := "ytekbamiaenbhjaa", sum := "20fb5a765de2bc8491e7746858b31a29a498507955cc83e14f3db412fd24d1d9", func := "partsong/partkeep.SetsOwn", spec := "setsOwn", unfollowed := true, recurses := true, apart := false, narrowed := true }
def SetsOwnUptoSaid : Prop := setsOwnUptoRow.holds Try.pinned (OpenSpec.upto setsOwnSpec)

end Rows
end Go.Proofs.Ytekbamiaenbhjaa
