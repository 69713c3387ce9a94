/-
  No cell of these rows narrows 'for every input' (looked for: loops, veiled, ifaces, maps, wideKeys, modest, calm, conditions, laid).
  DERIVED. THE GIVEN ROWS OF THIS SEAT. 13 by the template 'for every input the law returns true; each argument reads behind the call as it read before'; 0 by the template 'total and deterministic' (their statements: YtehmefjnkbjiiaaTotals.lean).
  GIVEN WITH THE SEED: the statements are not yours to turn. If you find one false, say at which input.
  Laid BY PROGRAM, IN A SANDBOX (cutbox-rows.mjs): the forced cells as the released guide's own fill.sh prints them over the translation 745dbbc1d475c2b0… (all of the seat's roots in one cut). By AI agents, Wed Nov 11 2026. No macro, syntax, notation, axiom, sorry.
-/
import Derived.Test.YtehmefjnkbjiiaaChecked
import GoSem.Claim
import GoSem.ClaimJoined
import GoSem.ClaimMapViews
import Derived.JoinedTies
import Derived.KernelRfl
namespace Go.Proofs.Ytehmefjnkbjiiaa
/- THE CELL 'sum', in the pinned program and in every row, IS THE sha256 OF THE DUMP (.gsa) THAT YtehmefjnkbjiiaaProg.lean LOADS. Nothing in Lean hashes anything: it is a label: what it is worth is what the hold of that sum in a sandbox is worth. -/
noncomputable def Try.pinned : Pinned := { name := "ytehmefjnkbjiiaa", sum := "745dbbc1d475c2b0691453ffd2ce2ab48cf4ee8736352d0d25c41a6c12b444d6", checked := Try.checked }
namespace Rows
def none {H : Type} : Left H := { results := [], args := [] }

/-- 'partkeep.MatchHalf': WHATEVER THE INPUT: true; the input reads as it did. -/
def matchHalfSpec : ChangeSpec := { name := "matchHalf", fn := fun _ => fun
  | [d1, d2, d3] => { results := [.lit (.bool true)], args := [d1, d2, d3] }
  | _ => none }
def matchHalfRow : OpenClaim := { program := "ytehmefjnkbjiiaa", sum := "745dbbc1d475c2b0691453ffd2ce2ab48cf4ee8736352d0d25c41a6c12b444d6", func := "partsong/partkeep.MatchHalf", spec := "matchHalf", unfollowed := true, recurses := true, apart := false }
def MatchHalfSaid : Prop := matchHalfRow.holds Try.pinned (OpenSpec.ofChange matchHalfSpec)

/-- ITS FALSE NEIGHBOUR: 'it returns false'. Refute it at one input. -/
def matchHalfWrong : ChangeSpec := { name := "matchHalf", fn := fun _ => fun
  | [d1, d2, d3] => { results := [.lit (.bool false)], args := [d1, d2, d3] }
  | _ => none }
def MatchHalfWrongFalsely : Prop := matchHalfRow.holds Try.pinned (OpenSpec.ofChange matchHalfWrong)

/-- 'partkeep.MatchMost': WHATEVER THE INPUT: true; the input reads as it did. -/
def matchMostSpec : ChangeSpec := { name := "matchMost", fn := fun _ => fun
  | [d1, d2, d3, d4] => { results := [.lit (.bool true)], args := [d1, d2, d3, d4] }
  | _ => none }
def matchMostRow : OpenClaim := { program := "ytehmefjnkbjiiaa", sum := "745dbbc1d475c2b0691453ffd2ce2ab48cf4ee8736352d0d25c41a6c12b444d6", func := "partsong/partkeep.MatchMost", spec := "matchMost", unfollowed := true, recurses := true, apart := false }
def MatchMostSaid : Prop := matchMostRow.holds Try.pinned (OpenSpec.ofChange matchMostSpec)

/-- ITS FALSE NEIGHBOUR: 'it returns false'. Refute it at one input. -/
def matchMostWrong : ChangeSpec := { name := "matchMost", fn := fun _ => fun
  | [d1, d2, d3, d4] => { results := [.lit (.bool false)], args := [d1, d2, d3, d4] }
  | _ => none }
def MatchMostWrongFalsely : Prop := matchMostRow.holds Try.pinned (OpenSpec.ofChange matchMostWrong)

/-- 'partkeep.SnapEnds': WHATEVER THE INPUT: true; the input reads as it did. -/
def snapEndsSpec : ChangeSpec := { name := "snapEnds", fn := fun _ => fun
  | [d1, d2, d3] => { results := [.lit (.bool true)], args := [d1, d2, d3] }
  | _ => none }
def snapEndsRow : OpenClaim := { program := "ytehmefjnkbjiiaa", sum := "745dbbc1d475c2b0691453ffd2ce2ab48cf4ee8736352d0d25c41a6c12b444d6", func := "partsong/partkeep.SnapEnds", spec := "snapEnds", unfollowed := true, recurses := true, apart := false }
def SnapEndsSaid : Prop := snapEndsRow.holds Try.pinned (OpenSpec.ofChange snapEndsSpec)

/-- ITS FALSE NEIGHBOUR: 'it returns false'. Refute it at one input. -/
def snapEndsWrong : ChangeSpec := { name := "snapEnds", fn := fun _ => fun
  | [d1, d2, d3] => { results := [.lit (.bool false)], args := [d1, d2, d3] }
  | _ => none }
def SnapEndsWrongFalsely : Prop := snapEndsRow.holds Try.pinned (OpenSpec.ofChange snapEndsWrong)

/-- 'partkeep.MatchTurns': WHATEVER THE INPUT: true; the input reads as it did. -/
def matchTurnsSpec : ChangeSpec := { name := "matchTurns", fn := fun _ => fun
  | [d1, d2, d3, d4] => { results := [.lit (.bool true)], args := [d1, d2, d3, d4] }
  | _ => none }
def matchTurnsRow : OpenClaim := { program := "ytehmefjnkbjiiaa", sum := "745dbbc1d475c2b0691453ffd2ce2ab48cf4ee8736352d0d25c41a6c12b444d6", func := "partsong/partkeep.MatchTurns", spec := "matchTurns", unfollowed := true, recurses := true, apart := false }
def MatchTurnsSaid : Prop := matchTurnsRow.holds Try.pinned (OpenSpec.ofChange matchTurnsSpec)

/-- ITS FALSE NEIGHBOUR: 'it returns false'. Refute it at one input. -/
def matchTurnsWrong : ChangeSpec := { name := "matchTurns", fn := fun _ => fun
  | [d1, d2, d3, d4] => { results := [.lit (.bool false)], args := [d1, d2, d3, d4] }
  | _ => none }
def MatchTurnsWrongFalsely : Prop := matchTurnsRow.holds Try.pinned (OpenSpec.ofChange matchTurnsWrong)

/-- 'partkeep.SynodKeeps': WHATEVER THE INPUT: true; the input reads as it did. -/
def synodKeepsSpec : ChangeSpec := { name := "synodKeeps", fn := fun _ => fun
  | [d1, d2] => { results := [.lit (.bool true)], args := [d1, d2] }
  | _ => none }
def synodKeepsRow : OpenClaim := { program := "ytehmefjnkbjiiaa", sum := "745dbbc1d475c2b0691453ffd2ce2ab48cf4ee8736352d0d25c41a6c12b444d6", func := "partsong/partkeep.SynodKeeps", spec := "synodKeeps", unfollowed := true, recurses := true, apart := false }
def SynodKeepsSaid : Prop := synodKeepsRow.holds Try.pinned (OpenSpec.ofChange synodKeepsSpec)

/-- ITS FALSE NEIGHBOUR: 'it returns false'. Refute it at one input. -/
def synodKeepsWrong : ChangeSpec := { name := "synodKeeps", fn := fun _ => fun
  | [d1, d2] => { results := [.lit (.bool false)], args := [d1, d2] }
  | _ => none }
def SynodKeepsWrongFalsely : Prop := synodKeepsRow.holds Try.pinned (OpenSpec.ofChange synodKeepsWrong)

/-- 'partkeep.FlushKeeps': WHATEVER THE INPUT: true; the input reads as it did. -/
def flushKeepsSpec : ChangeSpec := { name := "flushKeeps", fn := fun _ => fun
  | [d1, d2, d3] => { results := [.lit (.bool true)], args := [d1, d2, d3] }
  | _ => none }
def flushKeepsRow : OpenClaim := { program := "ytehmefjnkbjiiaa", sum := "745dbbc1d475c2b0691453ffd2ce2ab48cf4ee8736352d0d25c41a6c12b444d6", func := "partsong/partkeep.FlushKeeps", spec := "flushKeeps", apart := false }
def FlushKeepsSaid : Prop := flushKeepsRow.holds Try.pinned (OpenSpec.ofChange flushKeepsSpec)

/-- ITS FALSE NEIGHBOUR: 'it returns false'. Refute it at one input. -/
def flushKeepsWrong : ChangeSpec := { name := "flushKeeps", fn := fun _ => fun
  | [d1, d2, d3] => { results := [.lit (.bool false)], args := [d1, d2, d3] }
  | _ => none }
def FlushKeepsWrongFalsely : Prop := flushKeepsRow.holds Try.pinned (OpenSpec.ofChange flushKeepsWrong)

/-- 'partkeep.SnapSum': WHATEVER THE INPUT: true; the input reads as it did. -/
def snapSumSpec : ChangeSpec := { name := "snapSum", fn := fun _ => fun
  | [d1, d2] => { results := [.lit (.bool true)], args := [d1, d2] }
  | _ => none }
def snapSumRow : OpenClaim := { program := "ytehmefjnkbjiiaa", sum := "745dbbc1d475c2b0691453ffd2ce2ab48cf4ee8736352d0d25c41a6c12b444d6", func := "partsong/partkeep.SnapSum", spec := "snapSum", unfollowed := true, recurses := true, apart := false }
def SnapSumSaid : Prop := snapSumRow.holds Try.pinned (OpenSpec.ofChange snapSumSpec)

/-- ITS FALSE NEIGHBOUR: 'it returns false'. Refute it at one input. -/
def snapSumWrong : ChangeSpec := { name := "snapSum", fn := fun _ => fun
  | [d1, d2] => { results := [.lit (.bool false)], args := [d1, d2] }
  | _ => none }
def SnapSumWrongFalsely : Prop := snapSumRow.holds Try.pinned (OpenSpec.ofChange snapSumWrong)

/-- 'partkeep.PosetHigh': WHATEVER THE INPUT: true; the input reads as it did. -/
def posetHighSpec : ChangeSpec := { name := "posetHigh", fn := fun _ => fun
  | [d] => { results := [.lit (.bool true)], args := [d] }
  | _ => none }
def posetHighRow : OpenClaim := { program := "ytehmefjnkbjiiaa", sum := "745dbbc1d475c2b0691453ffd2ce2ab48cf4ee8736352d0d25c41a6c12b444d6", func := "partsong/partkeep.PosetHigh", spec := "posetHigh", unfollowed := true, recurses := true, apart := false }
def PosetHighSaid : Prop := posetHighRow.holds Try.pinned (OpenSpec.ofChange posetHighSpec)

/-- ITS FALSE NEIGHBOUR: 'it returns false'. Refute it at one input. -/
def posetHighWrong : ChangeSpec := { name := "posetHigh", fn := fun _ => fun
  | [d] => { results := [.lit (.bool false)], args := [d] }
  | _ => none }
def PosetHighWrongFalsely : Prop := posetHighRow.holds Try.pinned (OpenSpec.ofChange posetHighWrong)

/-- 'partkeep.FlushOwn': WHATEVER THE INPUT: true; the input reads as it did. -/
def flushOwnSpec : ChangeSpec := { name := "flushOwn", fn := fun _ => fun
  | [d1, d2, d3] => { results := [.lit (.bool true)], args := [d1, d2, d3] }
  | _ => none }
def flushOwnRow : OpenClaim := { program := "ytehmefjnkbjiiaa", sum := "745dbbc1d475c2b0691453ffd2ce2ab48cf4ee8736352d0d25c41a6c12b444d6", func := "partsong/partkeep.FlushOwn", spec := "flushOwn", apart := false }
def FlushOwnSaid : Prop := flushOwnRow.holds Try.pinned (OpenSpec.ofChange flushOwnSpec)

/-- ITS FALSE NEIGHBOUR: 'it returns false'. Refute it at one input. -/
def flushOwnWrong : ChangeSpec := { name := "flushOwn", fn := fun _ => fun
  | [d1, d2, d3] => { results := [.lit (.bool false)], args := [d1, d2, d3] }
  | _ => none }
def FlushOwnWrongFalsely : Prop := flushOwnRow.holds Try.pinned (OpenSpec.ofChange flushOwnWrong)

/-- 'partkeep.MatchCover': WHATEVER THE INPUT: true; the input reads as it did. -/
def matchCoverSpec : ChangeSpec := { name := "matchCover", fn := fun _ => fun
  | [d1, d2, d3] => { results := [.lit (.bool true)], args := [d1, d2, d3] }
  | _ => none }
def matchCoverRow : OpenClaim := { program := "ytehmefjnkbjiiaa", sum := "745dbbc1d475c2b0691453ffd2ce2ab48cf4ee8736352d0d25c41a6c12b444d6", func := "partsong/partkeep.MatchCover", spec := "matchCover", unfollowed := true, recurses := true, apart := false }
def MatchCoverSaid : Prop := matchCoverRow.holds Try.pinned (OpenSpec.ofChange matchCoverSpec)

/-- ITS FALSE NEIGHBOUR: 'it returns false'. Refute it at one input. -/
def matchCoverWrong : ChangeSpec := { name := "matchCover", fn := fun _ => fun
  | [d1, d2, d3] => { results := [.lit (.bool false)], args := [d1, d2, d3] }
  | _ => none }
def MatchCoverWrongFalsely : Prop := matchCoverRow.holds Try.pinned (OpenSpec.ofChange matchCoverWrong)

/-- 'partkeep.SnapFront': WHATEVER THE INPUT: true; the input reads as it did. -/
def snapFrontSpec : ChangeSpec := { name := "snapFront", fn := fun _ => fun
  | [d1, d2, d3] => { results := [.lit (.bool true)], args := [d1, d2, d3] }
  | _ => none }
def snapFrontRow : OpenClaim := { program := "ytehmefjnkbjiiaa", sum := "745dbbc1d475c2b0691453ffd2ce2ab48cf4ee8736352d0d25c41a6c12b444d6", func := "partsong/partkeep.SnapFront", spec := "snapFront", unfollowed := true, recurses := true, apart := false }
def SnapFrontSaid : Prop := snapFrontRow.holds Try.pinned (OpenSpec.ofChange snapFrontSpec)

/-- ITS FALSE NEIGHBOUR: 'it returns false'. Refute it at one input. -/
def snapFrontWrong : ChangeSpec := { name := "snapFront", fn := fun _ => fun
  | [d1, d2, d3] => { results := [.lit (.bool false)], args := [d1, d2, d3] }
  | _ => none }
def SnapFrontWrongFalsely : Prop := snapFrontRow.holds Try.pinned (OpenSpec.ofChange snapFrontWrong)

/-- 'partkeep.LatBack': WHATEVER THE INPUT: true; the input reads as it did. -/
def latBackSpec : ChangeSpec := { name := "latBack", fn := fun _ => fun
  | [d] => { results := [.lit (.bool true)], args := [d] }
  | _ => none }
def latBackRow : OpenClaim := { program := "ytehmefjnkbjiiaa", sum := "745dbbc1d475c2b0691453ffd2ce2ab48cf4ee8736352d0d25c41a6c12b444d6", func := "partsong/partkeep.LatBack", spec := "latBack", unfollowed := true, recurses := true, apart := false }
def LatBackSaid : Prop := latBackRow.holds Try.pinned (OpenSpec.ofChange latBackSpec)

/-- ITS FALSE NEIGHBOUR: 'it returns false'. Refute it at one input. -/
def latBackWrong : ChangeSpec := { name := "latBack", fn := fun _ => fun
  | [d] => { results := [.lit (.bool false)], args := [d] }
  | _ => none }
def LatBackWrongFalsely : Prop := latBackRow.holds Try.pinned (OpenSpec.ofChange latBackWrong)

/-- 'partkeep.MatchHall': WHATEVER THE INPUT: true; the input reads as it did. -/
def matchHallSpec : ChangeSpec := { name := "matchHall", fn := fun _ => fun
  | [d1, d2, d3, d4] => { results := [.lit (.bool true)], args := [d1, d2, d3, d4] }
  | _ => none }
def matchHallRow : OpenClaim := { program := "ytehmefjnkbjiiaa", sum := "745dbbc1d475c2b0691453ffd2ce2ab48cf4ee8736352d0d25c41a6c12b444d6", func := "partsong/partkeep.MatchHall", spec := "matchHall", unfollowed := true, recurses := true, apart := false }
def MatchHallSaid : Prop := matchHallRow.holds Try.pinned (OpenSpec.ofChange matchHallSpec)

/-- ITS FALSE NEIGHBOUR: 'it returns false'. Refute it at one input. -/
def matchHallWrong : ChangeSpec := { name := "matchHall", fn := fun _ => fun
  | [d1, d2, d3, d4] => { results := [.lit (.bool false)], args := [d1, d2, d3, d4] }
  | _ => none }
def MatchHallWrongFalsely : Prop := matchHallRow.holds Try.pinned (OpenSpec.ofChange matchHallWrong)

/- THE SECOND FORM. 'bulk': how many values and letters a reading holds, each counted each time it is reached (what is shared counts as often as it is met; a slice's spare places count too). A statement '..UptoSaid' is the law's where the arguments, and the package variables that the reading takes, are together of bulk at most 1048576: NARROWER than '..Said'. Prove '..Said' where nothing that the law and all that it calls make is longer than what came in: it says more and counts as full. Else prove '..UptoSaid'. A law counts once. -/
mutual
def uptoBulk {H : Type} : DataW H → Nat
  | .lit (.string bytes) => bytes.length + 1
  | .lit _ => 1
  | .nil => 1
  | .ptr d => uptoBulk d + 1
  | .slice elems spare => uptoBulkAll elems + uptoBulkAll spare + 1
  | .agg parts => uptoBulkAll parts + 1
  | .iface _ d => uptoBulk d + 1
  | .map entries => uptoBulkEntries entries + 1
  | .held _ => 1
def uptoBulkAll {H : Type} : List (DataW H) → Nat
  | [] => 0
  | d :: r => uptoBulk d + uptoBulkAll r
def uptoBulkEntries {H : Type} : List (Lit × DataW H) → Nat
  | [] => 0
  | x :: r => uptoBulkEntry x + uptoBulkEntries r
def uptoBulkEntry {H : Type} : Lit × DataW H → Nat
  | (.string bytes, d) => bytes.length + uptoBulk d + 1
  | (_, d) => uptoBulk d + 1
 end
def uptoSmall : (H : Type) → List (DataW H) → Bool := fun _ ds => decide (uptoBulkAll ds ≤ 1048576)
def OpenSpec.upto (s : _root_.Go.ChangeSpec) : _root_.Go.OpenSpec := { _root_.Go.OpenSpec.ofChange s with cond := some uptoSmall }

/-- 'partkeep.MatchHalf', WHERE WHAT IT READS IS OF BULK AT MOST 1048576: true; the input reads as it did. -/
def matchHalfUptoRow : OpenClaim := { program := "ytehmefjnkbjiiaa", sum := "745dbbc1d475c2b0691453ffd2ce2ab48cf4ee8736352d0d25c41a6c12b444d6", func := "partsong/partkeep.MatchHalf", spec := "matchHalf", unfollowed := true, recurses := true, apart := false, narrowed := true }
def MatchHalfUptoSaid : Prop := matchHalfUptoRow.holds Try.pinned (OpenSpec.upto matchHalfSpec)

/-- 'partkeep.MatchMost', WHERE WHAT IT READS IS OF BULK AT MOST 1048576: true; the input reads as it did. -/
def matchMostUptoRow : OpenClaim := { program := "ytehmefjnkbjiiaa", sum := "745dbbc1d475c2b0691453ffd2ce2ab48cf4ee8736352d0d25c41a6c12b444d6", func := "partsong/partkeep.MatchMost", spec := "matchMost", unfollowed := true, recurses := true, apart := false, narrowed := true }
def MatchMostUptoSaid : Prop := matchMostUptoRow.holds Try.pinned (OpenSpec.upto matchMostSpec)

/-- 'partkeep.SnapEnds', WHERE WHAT IT READS IS OF BULK AT MOST 1048576: true; the input reads as it did. -/
def snapEndsUptoRow : OpenClaim := { program := "ytehmefjnkbjiiaa", sum := "745dbbc1d475c2b0691453ffd2ce2ab48cf4ee8736352d0d25c41a6c12b444d6", func := "partsong/partkeep.SnapEnds", spec := "snapEnds", unfollowed := true, recurses := true, apart := false, narrowed := true }
def SnapEndsUptoSaid : Prop := snapEndsUptoRow.holds Try.pinned (OpenSpec.upto snapEndsSpec)

/-- 'partkeep.MatchTurns', WHERE WHAT IT READS IS OF BULK AT MOST 1048576: true; the input reads as it did. -/
def matchTurnsUptoRow : OpenClaim := { program := "ytehmefjnkbjiiaa", sum := "745dbbc1d475c2b0691453ffd2ce2ab48cf4ee8736352d0d25c41a6c12b444d6", func := "partsong/partkeep.MatchTurns", spec := "matchTurns", unfollowed := true, recurses := true, apart := false, narrowed := true }
def MatchTurnsUptoSaid : Prop := matchTurnsUptoRow.holds Try.pinned (OpenSpec.upto matchTurnsSpec)

/-- 'partkeep.SynodKeeps', WHERE WHAT IT READS IS OF BULK AT MOST 1048576: true; the input reads as it did. -/
def synodKeepsUptoRow : OpenClaim := { program := "ytehmefjnkbjiiaa", sum := "745dbbc1d475c2b0691453ffd2ce2ab48cf4ee8736352d0d25c41a6c12b444d6", func := "partsong/partkeep.SynodKeeps", spec := "synodKeeps", unfollowed := true, recurses := true, apart := false, narrowed := true }
def SynodKeepsUptoSaid : Prop := synodKeepsUptoRow.holds Try.pinned (OpenSpec.upto synodKeepsSpec)

/-- 'partkeep.FlushKeeps', WHERE WHAT IT READS IS OF BULK AT MOST 1048576: true; the input reads as it did. -/
def flushKeepsUptoRow : OpenClaim := { program := "ytehmefjnkbjiiaa", sum := "745dbbc1d475c2b0691453ffd2ce2ab48cf4ee8736352d0d25c41a6c12b444d6", func := "partsong/partkeep.FlushKeeps", spec := "flushKeeps", apart := false, narrowed := true }
def FlushKeepsUptoSaid : Prop := flushKeepsUptoRow.holds Try.pinned (OpenSpec.upto flushKeepsSpec)

/-- 'partkeep.SnapSum', WHERE WHAT IT READS IS OF BULK AT MOST 1048576: true; the input reads as it did. -/
def snapSumUptoRow : OpenClaim := { program := "ytehmefjnkbjiiaa", sum := "745dbbc1d475c2b0691453ffd2ce2ab48cf4ee8736352d0d25c41a6c12b444d6", func := "partsong/partkeep.SnapSum", spec := "snapSum", unfollowed := true, recurses := true, apart := false, narrowed := true }
def SnapSumUptoSaid : Prop := snapSumUptoRow.holds Try.pinned (OpenSpec.upto snapSumSpec)

/-- 'partkeep.PosetHigh', WHERE WHAT IT READS IS OF BULK AT MOST 1048576: true; the input reads as it did. -/
def posetHighUptoRow : OpenClaim := { program := "ytehmefjnkbjiiaa", sum := "745dbbc1d475c2b0691453ffd2ce2ab48cf4ee8736352d0d25c41a6c12b444d6", func := "partsong/partkeep.PosetHigh", spec := "posetHigh", unfollowed := true, recurses := true, apart := false, narrowed := true }
def PosetHighUptoSaid : Prop := posetHighUptoRow.holds Try.pinned (OpenSpec.upto posetHighSpec)

/-- 'partkeep.FlushOwn', WHERE WHAT IT READS IS OF BULK AT MOST 1048576: true; the input reads as it did. -/
def flushOwnUptoRow : OpenClaim := { program := "ytehmefjnkbjiiaa", sum := "745dbbc1d475c2b0691453ffd2ce2ab48cf4ee8736352d0d25c41a6c12b444d6", func := "partsong/partkeep.FlushOwn", spec := "flushOwn", apart := false, narrowed := true }
def FlushOwnUptoSaid : Prop := flushOwnUptoRow.holds Try.pinned (OpenSpec.upto flushOwnSpec)

/-- 'partkeep.MatchCover', WHERE WHAT IT READS IS OF BULK AT MOST 1048576: true; the input reads as it did. -/
def matchCoverUptoRow : OpenClaim := { program := "ytehmefjnkbjiiaa", sum := "745dbbc1d475c2b0691453ffd2ce2ab48cf4ee8736352d0d25c41a6c12b444d6", func := "partsong/partkeep.MatchCover", spec := "matchCover", unfollowed := true, recurses := true, apart := false, narrowed := true }
def MatchCoverUptoSaid : Prop := matchCoverUptoRow.holds Try.pinned (OpenSpec.upto matchCoverSpec)

/-- 'partkeep.SnapFront', WHERE WHAT IT READS IS OF BULK AT MOST 1048576: true; the input reads as it did. -/
def snapFrontUptoRow : OpenClaim := { program := "ytehmefjnkbjiiaa", sum := "745dbbc1d475c2b0691453ffd2ce2ab48cf4ee8736352d0d25c41a6c12b444d6", func := "partsong/partkeep.SnapFront", spec := "snapFront", unfollowed := true, recurses := true, apart := false, narrowed := true }
def SnapFrontUptoSaid : Prop := snapFrontUptoRow.holds Try.pinned (OpenSpec.upto snapFrontSpec)

/-- 'partkeep.LatBack', WHERE WHAT IT READS IS OF BULK AT MOST 1048576: true; the input reads as it did. -/
def latBackUptoRow : OpenClaim := { program := "ytehmefjnkbjiiaa", sum := "745dbbc1d475c2b0691453ffd2ce2ab48cf4ee8736352d0d25c41a6c12b444d6", func := "partsong/partkeep.LatBack", spec := "latBack", unfollowed := true, recurses := true, apart := false, narrowed := true }
def LatBackUptoSaid : Prop := latBackUptoRow.holds Try.pinned (OpenSpec.upto latBackSpec)

/-- 'partkeep.MatchHall', WHERE WHAT IT READS IS OF BULK AT MOST 1048576: true; the input reads as it did. -/
def matchHallUptoRow : OpenClaim := { program := "ytehmefjnkbjiiaa", sum := "745dbbc1d475c2b0691453ffd2ce2ab48cf4ee8736352d0d25c41a6c12b444d6", func := "partsong/partkeep.MatchHall", spec := "matchHall", unfollowed := true, recurses := true, apart := false, narrowed := true }
def MatchHallUptoSaid : Prop := matchHallUptoRow.holds Try.pinned (OpenSpec.upto matchHallSpec)

end Rows
end Go.Proofs.Ytehmefjnkbjiiaa
