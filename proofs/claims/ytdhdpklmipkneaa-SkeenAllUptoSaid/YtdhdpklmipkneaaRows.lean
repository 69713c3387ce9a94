/-
  No cell of these rows narrows 'for every input' (looked for: loops, veiled, ifaces, maps, wideKeys, modest, calm, conditions, laid).
  DERIVED. THE GIVEN ROWS OF THIS SEAT. 16 by the template 'for every input the law returns true; each argument reads behind the call as it read before'; 0 by the template 'total and deterministic' (their statements: YtdhdpklmipkneaaTotals.lean).
  GIVEN WITH THE SEED: the statements are not yours to turn. If you find one false, say at which input.
  Laid BY PROGRAM, IN A SANDBOX (cutbox-rows.mjs): the forced cells as the released guide's own fill.sh prints them over the translation 5845836953588828… (all of the seat's roots in one cut). By AI agents, Wed Nov 11 2026. No macro, syntax, notation, axiom, sorry.
-/
import Derived.Test.YtdhdpklmipkneaaChecked
import GoSem.Claim
import GoSem.ClaimJoined
import GoSem.ClaimMapViews
import Derived.JoinedTies
import Derived.KernelRfl
namespace Go.Proofs.Ytdhdpklmipkneaa
/- THE CELL 'sum', in the pinned program and in every row, IS THE sha256 OF THE DUMP (.gsa) THAT YtdhdpklmipkneaaProg.lean LOADS. Nothing in Lean hashes anything: it is a label: what it is worth is what the hold of that sum in a sandbox is worth. -/
noncomputable def Try.pinned : Pinned := { name := "ytdhdpklmipkneaa", sum := "584583695358882807c5cd019f2330c6ab18dda8e98be48938ca48bc646abdce", checked := Try.checked }
namespace Rows
def none {H : Type} : Left H := { results := [], args := [] }

/-- 'partkeep.StampTotal': WHATEVER THE INPUT: true; the input reads as it did. -/
def stampTotalSpec : ChangeSpec := { name := "stampTotal", fn := fun _ => fun
  | [d] => { results := [.lit (.bool true)], args := [d] }
  | _ => none }
def stampTotalRow : OpenClaim := { program := "ytdhdpklmipkneaa", sum := "584583695358882807c5cd019f2330c6ab18dda8e98be48938ca48bc646abdce", func := "partsong/partkeep.StampTotal", spec := "stampTotal", unfollowed := true, recurses := true, apart := false }
def StampTotalSaid : Prop := stampTotalRow.holds Try.pinned (OpenSpec.ofChange stampTotalSpec)

/-- ITS FALSE NEIGHBOUR: 'it returns false'. Refute it at one input. -/
def stampTotalWrong : ChangeSpec := { name := "stampTotal", fn := fun _ => fun
  | [d] => { results := [.lit (.bool false)], args := [d] }
  | _ => none }
def StampTotalWrongFalsely : Prop := stampTotalRow.holds Try.pinned (OpenSpec.ofChange stampTotalWrong)

/-- 'partkeep.QuorumMore': WHATEVER THE INPUT: true; the input reads as it did. -/
def quorumMoreSpec : ChangeSpec := { name := "quorumMore", fn := fun _ => fun
  | [d1, d2, d3, d4, d5] => { results := [.lit (.bool true)], args := [d1, d2, d3, d4, d5] }
  | _ => none }
def quorumMoreRow : OpenClaim := { program := "ytdhdpklmipkneaa", sum := "584583695358882807c5cd019f2330c6ab18dda8e98be48938ca48bc646abdce", func := "partsong/partkeep.QuorumMore", spec := "quorumMore", unfollowed := true, recurses := true, apart := false }
def QuorumMoreSaid : Prop := quorumMoreRow.holds Try.pinned (OpenSpec.ofChange quorumMoreSpec)

/-- ITS FALSE NEIGHBOUR: 'it returns false'. Refute it at one input. -/
def quorumMoreWrong : ChangeSpec := { name := "quorumMore", fn := fun _ => fun
  | [d1, d2, d3, d4, d5] => { results := [.lit (.bool false)], args := [d1, d2, d3, d4, d5] }
  | _ => none }
def QuorumMoreWrongFalsely : Prop := quorumMoreRow.holds Try.pinned (OpenSpec.ofChange quorumMoreWrong)

/-- 'partkeep.QuorumDual': WHATEVER THE INPUT: true; the input reads as it did. -/
def quorumDualSpec : ChangeSpec := { name := "quorumDual", fn := fun _ => fun
  | [d1, d2, d3] => { results := [.lit (.bool true)], args := [d1, d2, d3] }
  | _ => none }
def quorumDualRow : OpenClaim := { program := "ytdhdpklmipkneaa", sum := "584583695358882807c5cd019f2330c6ab18dda8e98be48938ca48bc646abdce", func := "partsong/partkeep.QuorumDual", spec := "quorumDual", unfollowed := true, recurses := true, apart := false }
def QuorumDualSaid : Prop := quorumDualRow.holds Try.pinned (OpenSpec.ofChange quorumDualSpec)

/-- ITS FALSE NEIGHBOUR: 'it returns false'. Refute it at one input. -/
def quorumDualWrong : ChangeSpec := { name := "quorumDual", fn := fun _ => fun
  | [d1, d2, d3] => { results := [.lit (.bool false)], args := [d1, d2, d3] }
  | _ => none }
def QuorumDualWrongFalsely : Prop := quorumDualRow.holds Try.pinned (OpenSpec.ofChange quorumDualWrong)

/-- 'partkeep.QuorumSelf': WHATEVER THE INPUT: true; the input reads as it did. -/
def quorumSelfSpec : ChangeSpec := { name := "quorumSelf", fn := fun _ => fun
  | [d1, d2] => { results := [.lit (.bool true)], args := [d1, d2] }
  | _ => none }
def quorumSelfRow : OpenClaim := { program := "ytdhdpklmipkneaa", sum := "584583695358882807c5cd019f2330c6ab18dda8e98be48938ca48bc646abdce", func := "partsong/partkeep.QuorumSelf", spec := "quorumSelf", unfollowed := true, recurses := true, apart := false }
def QuorumSelfSaid : Prop := quorumSelfRow.holds Try.pinned (OpenSpec.ofChange quorumSelfSpec)

/-- ITS FALSE NEIGHBOUR: 'it returns false'. Refute it at one input. -/
def quorumSelfWrong : ChangeSpec := { name := "quorumSelf", fn := fun _ => fun
  | [d1, d2] => { results := [.lit (.bool false)], args := [d1, d2] }
  | _ => none }
def QuorumSelfWrongFalsely : Prop := quorumSelfRow.holds Try.pinned (OpenSpec.ofChange quorumSelfWrong)

/-- 'partkeep.SkeenRises': WHATEVER THE INPUT: true; the input reads as it did. -/
def skeenRisesSpec : ChangeSpec := { name := "skeenRises", fn := fun _ => fun
  | [d1, d2, d3] => { results := [.lit (.bool true)], args := [d1, d2, d3] }
  | _ => none }
def skeenRisesRow : OpenClaim := { program := "ytdhdpklmipkneaa", sum := "584583695358882807c5cd019f2330c6ab18dda8e98be48938ca48bc646abdce", func := "partsong/partkeep.SkeenRises", spec := "skeenRises", unfollowed := true, recurses := true, apart := false }
def SkeenRisesSaid : Prop := skeenRisesRow.holds Try.pinned (OpenSpec.ofChange skeenRisesSpec)

/-- ITS FALSE NEIGHBOUR: 'it returns false'. Refute it at one input. -/
def skeenRisesWrong : ChangeSpec := { name := "skeenRises", fn := fun _ => fun
  | [d1, d2, d3] => { results := [.lit (.bool false)], args := [d1, d2, d3] }
  | _ => none }
def SkeenRisesWrongFalsely : Prop := skeenRisesRow.holds Try.pinned (OpenSpec.ofChange skeenRisesWrong)

/-- 'partkeep.QuorumVotes': WHATEVER THE INPUT: true; the input reads as it did. -/
def quorumVotesSpec : ChangeSpec := { name := "quorumVotes", fn := fun _ => fun
  | [d1, d2, d3] => { results := [.lit (.bool true)], args := [d1, d2, d3] }
  | _ => none }
def quorumVotesRow : OpenClaim := { program := "ytdhdpklmipkneaa", sum := "584583695358882807c5cd019f2330c6ab18dda8e98be48938ca48bc646abdce", func := "partsong/partkeep.QuorumVotes", spec := "quorumVotes", unfollowed := true, recurses := true, apart := false }
def QuorumVotesSaid : Prop := quorumVotesRow.holds Try.pinned (OpenSpec.ofChange quorumVotesSpec)

/-- ITS FALSE NEIGHBOUR: 'it returns false'. Refute it at one input. -/
def quorumVotesWrong : ChangeSpec := { name := "quorumVotes", fn := fun _ => fun
  | [d1, d2, d3] => { results := [.lit (.bool false)], args := [d1, d2, d3] }
  | _ => none }
def QuorumVotesWrongFalsely : Prop := quorumVotesRow.holds Try.pinned (OpenSpec.ofChange quorumVotesWrong)

/-- 'partkeep.QuorumGrid': WHATEVER THE INPUT: true; the input reads as it did. -/
def quorumGridSpec : ChangeSpec := { name := "quorumGrid", fn := fun _ => fun
  | [d1, d2] => { results := [.lit (.bool true)], args := [d1, d2] }
  | _ => none }
def quorumGridRow : OpenClaim := { program := "ytdhdpklmipkneaa", sum := "584583695358882807c5cd019f2330c6ab18dda8e98be48938ca48bc646abdce", func := "partsong/partkeep.QuorumGrid", spec := "quorumGrid", unfollowed := true, recurses := true, apart := false }
def QuorumGridSaid : Prop := quorumGridRow.holds Try.pinned (OpenSpec.ofChange quorumGridSpec)

/-- ITS FALSE NEIGHBOUR: 'it returns false'. Refute it at one input. -/
def quorumGridWrong : ChangeSpec := { name := "quorumGrid", fn := fun _ => fun
  | [d1, d2] => { results := [.lit (.bool false)], args := [d1, d2] }
  | _ => none }
def QuorumGridWrongFalsely : Prop := quorumGridRow.holds Try.pinned (OpenSpec.ofChange quorumGridWrong)

/-- 'partkeep.PosetOrder': WHATEVER THE INPUT: true; the input reads as it did. -/
def posetOrderSpec : ChangeSpec := { name := "posetOrder", fn := fun _ => fun
  | [d] => { results := [.lit (.bool true)], args := [d] }
  | _ => none }
def posetOrderRow : OpenClaim := { program := "ytdhdpklmipkneaa", sum := "584583695358882807c5cd019f2330c6ab18dda8e98be48938ca48bc646abdce", func := "partsong/partkeep.PosetOrder", spec := "posetOrder", unfollowed := true, recurses := true, apart := false }
def PosetOrderSaid : Prop := posetOrderRow.holds Try.pinned (OpenSpec.ofChange posetOrderSpec)

/-- ITS FALSE NEIGHBOUR: 'it returns false'. Refute it at one input. -/
def posetOrderWrong : ChangeSpec := { name := "posetOrder", fn := fun _ => fun
  | [d] => { results := [.lit (.bool false)], args := [d] }
  | _ => none }
def PosetOrderWrongFalsely : Prop := posetOrderRow.holds Try.pinned (OpenSpec.ofChange posetOrderWrong)

/-- 'partkeep.SkeenSame': WHATEVER THE INPUT: true; the input reads as it did. -/
def skeenSameSpec : ChangeSpec := { name := "skeenSame", fn := fun _ => fun
  | [d1, d2] => { results := [.lit (.bool true)], args := [d1, d2] }
  | _ => none }
def skeenSameRow : OpenClaim := { program := "ytdhdpklmipkneaa", sum := "584583695358882807c5cd019f2330c6ab18dda8e98be48938ca48bc646abdce", func := "partsong/partkeep.SkeenSame", spec := "skeenSame", unfollowed := true, recurses := true, apart := false }
def SkeenSameSaid : Prop := skeenSameRow.holds Try.pinned (OpenSpec.ofChange skeenSameSpec)

/-- ITS FALSE NEIGHBOUR: 'it returns false'. Refute it at one input. -/
def skeenSameWrong : ChangeSpec := { name := "skeenSame", fn := fun _ => fun
  | [d1, d2] => { results := [.lit (.bool false)], args := [d1, d2] }
  | _ => none }
def SkeenSameWrongFalsely : Prop := skeenSameRow.holds Try.pinned (OpenSpec.ofChange skeenSameWrong)

/-- 'partkeep.SynodOne': WHATEVER THE INPUT: true; the input reads as it did. -/
def synodOneSpec : ChangeSpec := { name := "synodOne", fn := fun _ => fun
  | [d1, d2] => { results := [.lit (.bool true)], args := [d1, d2] }
  | _ => none }
def synodOneRow : OpenClaim := { program := "ytdhdpklmipkneaa", sum := "584583695358882807c5cd019f2330c6ab18dda8e98be48938ca48bc646abdce", func := "partsong/partkeep.SynodOne", spec := "synodOne", unfollowed := true, recurses := true, apart := false }
def SynodOneSaid : Prop := synodOneRow.holds Try.pinned (OpenSpec.ofChange synodOneSpec)

/-- ITS FALSE NEIGHBOUR: 'it returns false'. Refute it at one input. -/
def synodOneWrong : ChangeSpec := { name := "synodOne", fn := fun _ => fun
  | [d1, d2] => { results := [.lit (.bool false)], args := [d1, d2] }
  | _ => none }
def SynodOneWrongFalsely : Prop := synodOneRow.holds Try.pinned (OpenSpec.ofChange synodOneWrong)

/-- 'partkeep.SynodStays': WHATEVER THE INPUT: true; the input reads as it did. -/
def synodStaysSpec : ChangeSpec := { name := "synodStays", fn := fun _ => fun
  | [d1, d2, d3] => { results := [.lit (.bool true)], args := [d1, d2, d3] }
  | _ => none }
def synodStaysRow : OpenClaim := { program := "ytdhdpklmipkneaa", sum := "584583695358882807c5cd019f2330c6ab18dda8e98be48938ca48bc646abdce", func := "partsong/partkeep.SynodStays", spec := "synodStays", unfollowed := true, recurses := true, apart := false }
def SynodStaysSaid : Prop := synodStaysRow.holds Try.pinned (OpenSpec.ofChange synodStaysSpec)

/-- ITS FALSE NEIGHBOUR: 'it returns false'. Refute it at one input. -/
def synodStaysWrong : ChangeSpec := { name := "synodStays", fn := fun _ => fun
  | [d1, d2, d3] => { results := [.lit (.bool false)], args := [d1, d2, d3] }
  | _ => none }
def SynodStaysWrongFalsely : Prop := synodStaysRow.holds Try.pinned (OpenSpec.ofChange synodStaysWrong)

/-- 'partkeep.SynodEnds': WHATEVER THE INPUT: true; the input reads as it did. -/
def synodEndsSpec : ChangeSpec := { name := "synodEnds", fn := fun _ => fun
  | [d1, d2, d3] => { results := [.lit (.bool true)], args := [d1, d2, d3] }
  | _ => none }
def synodEndsRow : OpenClaim := { program := "ytdhdpklmipkneaa", sum := "584583695358882807c5cd019f2330c6ab18dda8e98be48938ca48bc646abdce", func := "partsong/partkeep.SynodEnds", spec := "synodEnds", unfollowed := true, recurses := true, apart := false }
def SynodEndsSaid : Prop := synodEndsRow.holds Try.pinned (OpenSpec.ofChange synodEndsSpec)

/-- ITS FALSE NEIGHBOUR: 'it returns false'. Refute it at one input. -/
def synodEndsWrong : ChangeSpec := { name := "synodEnds", fn := fun _ => fun
  | [d1, d2, d3] => { results := [.lit (.bool false)], args := [d1, d2, d3] }
  | _ => none }
def SynodEndsWrongFalsely : Prop := synodEndsRow.holds Try.pinned (OpenSpec.ofChange synodEndsWrong)

/-- 'partkeep.PosetTurns': WHATEVER THE INPUT: true; the input reads as it did. -/
def posetTurnsSpec : ChangeSpec := { name := "posetTurns", fn := fun _ => fun
  | [d] => { results := [.lit (.bool true)], args := [d] }
  | _ => none }
def posetTurnsRow : OpenClaim := { program := "ytdhdpklmipkneaa", sum := "584583695358882807c5cd019f2330c6ab18dda8e98be48938ca48bc646abdce", func := "partsong/partkeep.PosetTurns", spec := "posetTurns", unfollowed := true, recurses := true, apart := false }
def PosetTurnsSaid : Prop := posetTurnsRow.holds Try.pinned (OpenSpec.ofChange posetTurnsSpec)

/-- ITS FALSE NEIGHBOUR: 'it returns false'. Refute it at one input. -/
def posetTurnsWrong : ChangeSpec := { name := "posetTurns", fn := fun _ => fun
  | [d] => { results := [.lit (.bool false)], args := [d] }
  | _ => none }
def PosetTurnsWrongFalsely : Prop := posetTurnsRow.holds Try.pinned (OpenSpec.ofChange posetTurnsWrong)

/-- 'partkeep.PosetSquare': WHATEVER THE INPUT: true; the input reads as it did. -/
def posetSquareSpec : ChangeSpec := { name := "posetSquare", fn := fun _ => fun
  | [d] => { results := [.lit (.bool true)], args := [d] }
  | _ => none }
def posetSquareRow : OpenClaim := { program := "ytdhdpklmipkneaa", sum := "584583695358882807c5cd019f2330c6ab18dda8e98be48938ca48bc646abdce", func := "partsong/partkeep.PosetSquare", spec := "posetSquare", unfollowed := true, recurses := true, apart := false }
def PosetSquareSaid : Prop := posetSquareRow.holds Try.pinned (OpenSpec.ofChange posetSquareSpec)

/-- ITS FALSE NEIGHBOUR: 'it returns false'. Refute it at one input. -/
def posetSquareWrong : ChangeSpec := { name := "posetSquare", fn := fun _ => fun
  | [d] => { results := [.lit (.bool false)], args := [d] }
  | _ => none }
def PosetSquareWrongFalsely : Prop := posetSquareRow.holds Try.pinned (OpenSpec.ofChange posetSquareWrong)

/-- 'partkeep.SkeenAll': WHATEVER THE INPUT: true; the input reads as it did. -/
def skeenAllSpec : ChangeSpec := { name := "skeenAll", fn := fun _ => fun
  | [d1, d2] => { results := [.lit (.bool true)], args := [d1, d2] }
  | _ => none }
def skeenAllRow : OpenClaim := { program := "ytdhdpklmipkneaa", sum := "584583695358882807c5cd019f2330c6ab18dda8e98be48938ca48bc646abdce", func := "partsong/partkeep.SkeenAll", spec := "skeenAll", unfollowed := true, recurses := true, apart := false }
def SkeenAllSaid : Prop := skeenAllRow.holds Try.pinned (OpenSpec.ofChange skeenAllSpec)

/-- ITS FALSE NEIGHBOUR: 'it returns false'. Refute it at one input. -/
def skeenAllWrong : ChangeSpec := { name := "skeenAll", fn := fun _ => fun
  | [d1, d2] => { results := [.lit (.bool false)], args := [d1, d2] }
  | _ => none }
def SkeenAllWrongFalsely : Prop := skeenAllRow.holds Try.pinned (OpenSpec.ofChange skeenAllWrong)

/-- 'partkeep.PosetWide': WHATEVER THE INPUT: true; the input reads as it did. -/
def posetWideSpec : ChangeSpec := { name := "posetWide", fn := fun _ => fun
  | [d] => { results := [.lit (.bool true)], args := [d] }
  | _ => none }
def posetWideRow : OpenClaim := { program := "ytdhdpklmipkneaa", sum := "584583695358882807c5cd019f2330c6ab18dda8e98be48938ca48bc646abdce", func := "partsong/partkeep.PosetWide", spec := "posetWide", unfollowed := true, recurses := true, apart := false }
def PosetWideSaid : Prop := posetWideRow.holds Try.pinned (OpenSpec.ofChange posetWideSpec)

/-- ITS FALSE NEIGHBOUR: 'it returns false'. Refute it at one input. -/
def posetWideWrong : ChangeSpec := { name := "posetWide", fn := fun _ => fun
  | [d] => { results := [.lit (.bool false)], args := [d] }
  | _ => none }
def PosetWideWrongFalsely : Prop := posetWideRow.holds Try.pinned (OpenSpec.ofChange posetWideWrong)

/- THE SECOND FORM. 'bulk': how many values and letters a reading holds, each counted each time it is reached (what is shared counts as often as it is met; a slice's spare places count too). A statement '..UptoSaid' is the law's where the arguments, and the package variables that the reading takes, are together of bulk at most 1048576: NARROWER than '..Said'. Prove '..Said' where nothing that the law and all that it calls make is longer than what came in: it says more and counts as full. Else prove '..UptoSaid'. A law counts once. -/
mutual
def uptoBulk {H : Type} : DataW H → Nat
  | .lit (.string bytes) => bytes.length + 1
  | .lit _ => 1
  | .nil => 1
  | .ptr d => uptoBulk d + 1
  | .slice elems spare => uptoBulkAll elems + uptoBulkAll spare + 1
  | .agg parts => uptoBulkAll parts + 1
  | .iface _ d => uptoBulk d + 1
  | .map entries => uptoBulkEntries entries + 1
  | .held _ => 1
def uptoBulkAll {H : Type} : List (DataW H) → Nat
  | [] => 0
  | d :: r => uptoBulk d + uptoBulkAll r
def uptoBulkEntries {H : Type} : List (Lit × DataW H) → Nat
  | [] => 0
  | x :: r => uptoBulkEntry x + uptoBulkEntries r
def uptoBulkEntry {H : Type} : Lit × DataW H → Nat
  | (.string bytes, d) => bytes.length + uptoBulk d + 1
  | (_, d) => uptoBulk d + 1
 end
def uptoSmall : (H : Type) → List (DataW H) → Bool := fun _ ds => decide (uptoBulkAll ds ≤ 1048576)
def OpenSpec.upto (s : _root_.Go.ChangeSpec) : _root_.Go.OpenSpec := { _root_.Go.OpenSpec.ofChange s with cond := some uptoSmall }

/-- 'partkeep.StampTotal', WHERE WHAT IT READS IS OF BULK AT MOST 1048576: true; the input reads as it did. -/
def stampTotalUptoRow : OpenClaim := { program := "ytdhdpklmipkneaa", sum := "584583695358882807c5cd019f2330c6ab18dda8e98be48938ca48bc646abdce", func := "partsong/partkeep.StampTotal", spec := "stampTotal", unfollowed := true, recurses := true, apart := false, narrowed := true }
def StampTotalUptoSaid : Prop := stampTotalUptoRow.holds Try.pinned (OpenSpec.upto stampTotalSpec)

/-- 'partkeep.QuorumMore', WHERE WHAT IT READS IS OF BULK AT MOST 1048576: true; the input reads as it did. -/
def quorumMoreUptoRow : OpenClaim := { program := "ytdhdpklmipkneaa", sum := "584583695358882807c5cd019f2330c6ab18dda8e98be48938ca48bc646abdce", func := "partsong/partkeep.QuorumMore", spec := "quorumMore", unfollowed := true, recurses := true, apart := false, narrowed := true }
def QuorumMoreUptoSaid : Prop := quorumMoreUptoRow.holds Try.pinned (OpenSpec.upto quorumMoreSpec)

/-- 'partkeep.QuorumDual', WHERE WHAT IT READS IS OF BULK AT MOST 1048576: true; the input reads as it did. -/
def quorumDualUptoRow : OpenClaim := { program := "ytdhdpklmipkneaa", sum := "584583695358882807c5cd019f2330c6ab18dda8e98be48938ca48bc646abdce", func := "partsong/partkeep.QuorumDual", spec := "quorumDual", unfollowed := true, recurses := true, apart := false, narrowed := true }
def QuorumDualUptoSaid : Prop := quorumDualUptoRow.holds Try.pinned (OpenSpec.upto quorumDualSpec)

/-- 'partkeep.QuorumSelf', WHERE WHAT IT READS IS OF BULK AT MOST 1048576: true; the input reads as it did. -/
def quorumSelfUptoRow : OpenClaim := { program := "ytdhdpklmipkneaa", sum := "584583695358882807c5cd019f2330c6ab18dda8e98be48938ca48bc646abdce", func := "partsong/partkeep.QuorumSelf", spec := "quorumSelf", unfollowed := true, recurses := true, apart := false, narrowed := true }
def QuorumSelfUptoSaid : Prop := quorumSelfUptoRow.holds Try.pinned (OpenSpec.upto quorumSelfSpec)

/-- 'partkeep.SkeenRises', WHERE WHAT IT READS IS OF BULK AT MOST 1048576: true; the input reads as it did. -/
def skeenRisesUptoRow : OpenClaim := { program := "ytdhdpklmipkneaa", sum := "584583695358882807c5cd019f2330c6ab18dda8e98be48938ca48bc646abdce", func := "partsong/partkeep.SkeenRises", spec := "skeenRises", unfollowed := true, recurses := true, apart := false, narrowed := true }
def SkeenRisesUptoSaid : Prop := skeenRisesUptoRow.holds Try.pinned (OpenSpec.upto skeenRisesSpec)

/-- 'partkeep.QuorumVotes', WHERE WHAT IT READS IS OF BULK AT MOST 1048576: true; the input reads as it did. -/
def quorumVotesUptoRow : OpenClaim := { program := "ytdhdpklmipkneaa", sum := "584583695358882807c5cd019f2330c6ab18dda8e98be48938ca48bc646abdce", func := "partsong/partkeep.QuorumVotes", spec := "quorumVotes", unfollowed := true, recurses := true, apart := false, narrowed := true }
def QuorumVotesUptoSaid : Prop := quorumVotesUptoRow.holds Try.pinned (OpenSpec.upto quorumVotesSpec)

/-- 'partkeep.QuorumGrid', WHERE WHAT IT READS IS OF BULK AT MOST 1048576: true; the input reads as it did. -/
def quorumGridUptoRow : OpenClaim := { program := "ytdhdpklmipkneaa", sum := "584583695358882807c5cd019f2330c6ab18dda8e98be48938ca48bc646abdce", func := "partsong/partkeep.QuorumGrid", spec := "quorumGrid", unfollowed := true, recurses := true, apart := false, narrowed := true }
def QuorumGridUptoSaid : Prop := quorumGridUptoRow.holds Try.pinned (OpenSpec.upto quorumGridSpec)

/-- 'partkeep.PosetOrder', WHERE WHAT IT READS IS OF BULK AT MOST 1048576: true; the input reads as it did. -/
def posetOrderUptoRow : OpenClaim := { program := "ytdhdpklmipkneaa", sum := "584583695358882807c5cd019f2330c6ab18dda8e98be48938ca48bc646abdce", func := "partsong/partkeep.PosetOrder", spec := "posetOrder", unfollowed := true, recurses := true, apart := false, narrowed := true }
def PosetOrderUptoSaid : Prop := posetOrderUptoRow.holds Try.pinned (OpenSpec.upto posetOrderSpec)

/-- 'partkeep.SkeenSame', WHERE WHAT IT READS IS OF BULK AT MOST 1048576: true; the input reads as it did. -/
def skeenSameUptoRow : OpenClaim := { program := "ytdhdpklmipkneaa", sum := "584583695358882807c5cd019f2330c6ab18dda8e98be48938ca48bc646abdce", func := "partsong/partkeep.SkeenSame", spec := "skeenSame", unfollowed := true, recurses := true, apart := false, narrowed := true }
def SkeenSameUptoSaid : Prop := skeenSameUptoRow.holds Try.pinned (OpenSpec.upto skeenSameSpec)

/-- 'partkeep.SynodOne', WHERE WHAT IT READS IS OF BULK AT MOST 1048576: true; the input reads as it did. -/
def synodOneUptoRow : OpenClaim := { program := "ytdhdpklmipkneaa", sum := "584583695358882807c5cd019f2330c6ab18dda8e98be48938ca48bc646abdce", func := "partsong/partkeep.SynodOne", spec := "synodOne", unfollowed := true, recurses := true, apart := false, narrowed := true }
def SynodOneUptoSaid : Prop := synodOneUptoRow.holds Try.pinned (OpenSpec.upto synodOneSpec)

/-- 'partkeep.SynodStays', WHERE WHAT IT READS IS OF BULK AT MOST 1048576: true; the input reads as it did. -/
def synodStaysUptoRow : OpenClaim := { program := "ytdhdpklmipkneaa", sum := "584583695358882807c5cd019f2330c6ab18dda8e98be48938ca48bc646abdce", func := "partsong/partkeep.SynodStays", spec := "synodStays", unfollowed := true, recurses := true, apart := false, narrowed := true }
def SynodStaysUptoSaid : Prop := synodStaysUptoRow.holds Try.pinned (OpenSpec.upto synodStaysSpec)

/-- 'partkeep.SynodEnds', WHERE WHAT IT READS IS OF BULK AT MOST 1048576: true; the input reads as it did. -/
def synodEndsUptoRow : OpenClaim := { program := "ytdhdpklmipkneaa", sum := "584583695358882807c5cd019f2330c6ab18dda8e98be48938ca48bc646abdce", func := "partsong/partkeep.SynodEnds", spec := "synodEnds", unfollowed := true, recurses := true, apart := false, narrowed := true }
def SynodEndsUptoSaid : Prop := synodEndsUptoRow.holds Try.pinned (OpenSpec.upto synodEndsSpec)

/-- 'partkeep.PosetTurns', WHERE WHAT IT READS IS OF BULK AT MOST 1048576: true; the input reads as it did. -/
def posetTurnsUptoRow : OpenClaim := { program := "ytdhdpklmipkneaa", sum := "584583695358882807c5cd019f2330c6ab18dda8e98be48938ca48bc646abdce", func := "partsong/partkeep.PosetTurns", spec := "posetTurns", unfollowed := true, recurses := true, apart := false, narrowed := true }
def PosetTurnsUptoSaid : Prop := posetTurnsUptoRow.holds Try.pinned (OpenSpec.upto posetTurnsSpec)

/-- 'partkeep.PosetSquare', WHERE WHAT IT READS IS OF BULK AT MOST 1048576: true; the input reads as it did. -/
def posetSquareUptoRow : OpenClaim := { program := "ytdhdpklmipkneaa", sum := "584583695358882807c5cd019f2330c6ab18dda8e98be48938ca48bc646abdce", func := "partsong/partkeep.PosetSquare", spec := "posetSquare", unfollowed := true, recurses := true, apart := false, narrowed := true }
def PosetSquareUptoSaid : Prop := posetSquareUptoRow.holds Try.pinned (OpenSpec.upto posetSquareSpec)

/-- 'partkeep.SkeenAll', WHERE WHAT IT READS IS OF BULK AT MOST 1048576: true; the input reads as it did. -/
def skeenAllUptoRow : OpenClaim := { program := "ytdhdpklmipkneaa", sum := "584583695358882807c5cd019f2330c6ab18dda8e98be48938ca48bc646abdce", func := "partsong/partkeep.SkeenAll", spec := "skeenAll", unfollowed := true, recurses := true, apart := false, narrowed := true }
def SkeenAllUptoSaid : Prop := skeenAllUptoRow.holds Try.pinned (OpenSpec.upto skeenAllSpec)

/-- 'partkeep.PosetWide', WHERE WHAT IT READS IS OF BULK AT MOST 1048576: true; the input reads as it did. -/
def posetWideUptoRow : OpenClaim := { program := "ytdhdpklmipkneaa", sum := "584583695358882807c5cd019f2330c6ab18dda8e98be48938ca48bc646abdce", func := "partsong/partkeep.PosetWide", spec := "posetWide", unfollowed := true, recurses := true, apart := false, narrowed := true }
def PosetWideUptoSaid : Prop := posetWideUptoRow.holds Try.pinned (OpenSpec.upto posetWideSpec)

end Rows
end Go.Proofs.Ytdhdpklmipkneaa
