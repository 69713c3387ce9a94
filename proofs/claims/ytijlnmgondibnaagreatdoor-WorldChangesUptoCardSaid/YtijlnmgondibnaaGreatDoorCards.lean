/-
  DERIVED. GIVEN WITH THE SEED: THE CARDS: each row of YtijlnmgondibnaaGreatDoorRows.lean that lists a variable, with what it lists TIED to the program's text (the seventh form; the later family's looks); each row that meets fmt, with fmt's text TOLD by the authors' own Lean function (tested against real Go, not proved from fmt's source: count such statements apart). THE CARD IS WHAT COUNTS. Prove the row's statement (the work); the ties are given (YtijlnmgondibnaaGreatDoorTie.lean); close each card by the builder's one call (the guide's Derived/Test/ToyasCard.lean, 'card_holds'). Laid BY PROGRAM, IN A SANDBOX (cutbox-door.mjs). By AI agents, Wed Nov 11 2026. No macro, syntax, notation, axiom, sorry.
-/
import Derived.Test.YtijlnmgondibnaaGreatDoorRows
import GoSem.ClaimSeven
namespace Go.Proofs.YtijlnmgondibnaaGreatDoor
namespace Rows

/-- THE TIED CARD OF 'partkeep.WorldTwice'. -/
def worldTwiceCard : Claim7 := { stood := { row := worldTwiceRow, standIns := [], harness := (true, "c9434ef6de60f9d582221c556ace6c0af2080188a2f80eb4dc6e3732ead1fd29"), looks := true }, kinds := [], alts := [], laidByText := true, laidKinds := [.data, .data, .data, .sentinel, .sentinel], laidTests := true, laidLooks := .later }
def WorldTwiceCardSaid : Prop := Claim7.holds Tryz.pinned (.plain (OpenSpec.ofChange worldTwiceSpec)) worldTwiceCard

/-- THE TIED CARD OF 'partkeep.WorldLike'. -/
def worldLikeCard : Claim7 := { stood := { row := worldLikeRow, standIns := [], harness := (true, "c9434ef6de60f9d582221c556ace6c0af2080188a2f80eb4dc6e3732ead1fd29"), looks := true }, kinds := [], alts := [], laidByText := true, laidKinds := [.data, .data, .data, .sentinel, .sentinel], laidTests := true, laidLooks := .later }
def WorldLikeCardSaid : Prop := Claim7.holds Tryz.pinned (.plain (OpenSpec.ofChange worldLikeSpec)) worldLikeCard

/-- THE TIED CARD OF 'partkeep.WorldEnds'. -/
def worldEndsCard : Claim7 := { stood := { row := worldEndsRow, standIns := [], harness := (true, "c9434ef6de60f9d582221c556ace6c0af2080188a2f80eb4dc6e3732ead1fd29"), looks := true }, kinds := [], alts := [], laidByText := true, laidKinds := [.data, .data, .data, .sentinel, .sentinel], laidTests := true, laidLooks := .later }
def WorldEndsCardSaid : Prop := Claim7.holds Tryz.pinned (.plain (OpenSpec.ofChange worldEndsSpec)) worldEndsCard

/-- THE TIED CARD OF 'partkeep.WorldLine'. -/
def worldLineCard : Claim7 := { stood := { row := worldLineRow, standIns := [], harness := (true, "c9434ef6de60f9d582221c556ace6c0af2080188a2f80eb4dc6e3732ead1fd29"), looks := true }, kinds := [], alts := [], laidByText := true, laidKinds := [.data, .data, .data, .sentinel, .sentinel], laidTests := true, laidLooks := .later }
def WorldLineCardSaid : Prop := Claim7.holds Tryz.pinned (.plain (OpenSpec.ofChange worldLineSpec)) worldLineCard

/-- THE TIED CARD OF 'partkeep.WorldChanges'. -/
def worldChangesCard : Claim7 := { stood := { row := worldChangesRow, standIns := [], harness := (true, "c9434ef6de60f9d582221c556ace6c0af2080188a2f80eb4dc6e3732ead1fd29"), looks := true }, kinds := [], alts := [], laidByText := true, laidKinds := [.data, .data, .data, .data, .sentinel, .sentinel, .pinned], laidTests := true, laidLooks := .later }
def WorldChangesCardSaid : Prop := Claim7.holds Tryz.pinned (.plain (OpenSpec.ofChange worldChangesSpec)) worldChangesCard

/-- THE TIED CARD OF 'partkeep.WorldOwn'. -/
def worldOwnCard : Claim7 := { stood := { row := worldOwnRow, standIns := [], harness := (true, "c9434ef6de60f9d582221c556ace6c0af2080188a2f80eb4dc6e3732ead1fd29"), looks := true }, kinds := [], alts := [], laidByText := true, laidKinds := [.data, .data, .data, .data, .sentinel, .sentinel, .pinned], laidTests := true, laidLooks := .later }
def WorldOwnCardSaid : Prop := Claim7.holds Tryz.pinned (.plain (OpenSpec.ofChange worldOwnSpec)) worldOwnCard

/-- THE TIED CARD OF 'partkeep.WorldQuiet'. -/
def worldQuietCard : Claim7 := { stood := { row := worldQuietRow, standIns := [], harness := (true, "c9434ef6de60f9d582221c556ace6c0af2080188a2f80eb4dc6e3732ead1fd29"), looks := true }, kinds := [], alts := [], laidByText := true, laidKinds := [.data, .data, .data, .data, .sentinel, .sentinel, .pinned], laidTests := true, laidLooks := .later }
def WorldQuietCardSaid : Prop := Claim7.holds Tryz.pinned (.plain (OpenSpec.ofChange worldQuietSpec)) worldQuietCard

/-- THE TIED CARD OF 'parttop.TopSplit'. -/
def topSplitCard : Claim7 := { stood := { row := topSplitRow, standIns := [], harness := (true, "c9434ef6de60f9d582221c556ace6c0af2080188a2f80eb4dc6e3732ead1fd29"), looks := true }, kinds := [], alts := [], laidByText := true, laidKinds := [.data, .data, .data, .data, .sentinel, .sentinel, .pinned], laidTests := true, laidLooks := .later }
def TopSplitCardSaid : Prop := Claim7.holds Tryz.pinned (.plain (OpenSpec.ofChange topSplitSpec)) topSplitCard

/-- THE TIED CARD OF 'parttop.TopFront'. -/
def topFrontCard : Claim7 := { stood := { row := topFrontRow, standIns := [], harness := (true, "c9434ef6de60f9d582221c556ace6c0af2080188a2f80eb4dc6e3732ead1fd29"), looks := true }, kinds := [], alts := [], laidByText := true, laidKinds := [.data, .data, .data, .data, .sentinel, .sentinel, .pinned], laidTests := true, laidLooks := .later }
def TopFrontCardSaid : Prop := Claim7.holds Tryz.pinned (.plain (OpenSpec.ofChange topFrontSpec)) topFrontCard

/-- THE SECOND FORM's CARD OF 'partkeep.WorldTwice'. -/
def worldTwiceUptoCard : Claim7 := { stood := { row := worldTwiceUptoRow, standIns := [], harness := (true, "c9434ef6de60f9d582221c556ace6c0af2080188a2f80eb4dc6e3732ead1fd29"), looks := true }, kinds := [], alts := [], laidByText := true, laidKinds := [.data, .data, .data, .sentinel, .sentinel], laidTests := true, laidLooks := .later }
def WorldTwiceUptoCardSaid : Prop := Claim7.holds Tryz.pinned (.plain (OpenSpec.upto worldTwiceSpec)) worldTwiceUptoCard

/-- THE SECOND FORM's CARD OF 'partkeep.WorldLike'. -/
def worldLikeUptoCard : Claim7 := { stood := { row := worldLikeUptoRow, standIns := [], harness := (true, "c9434ef6de60f9d582221c556ace6c0af2080188a2f80eb4dc6e3732ead1fd29"), looks := true }, kinds := [], alts := [], laidByText := true, laidKinds := [.data, .data, .data, .sentinel, .sentinel], laidTests := true, laidLooks := .later }
def WorldLikeUptoCardSaid : Prop := Claim7.holds Tryz.pinned (.plain (OpenSpec.upto worldLikeSpec)) worldLikeUptoCard

/-- THE SECOND FORM's CARD OF 'partkeep.WorldEnds'. -/
def worldEndsUptoCard : Claim7 := { stood := { row := worldEndsUptoRow, standIns := [], harness := (true, "c9434ef6de60f9d582221c556ace6c0af2080188a2f80eb4dc6e3732ead1fd29"), looks := true }, kinds := [], alts := [], laidByText := true, laidKinds := [.data, .data, .data, .sentinel, .sentinel], laidTests := true, laidLooks := .later }
def WorldEndsUptoCardSaid : Prop := Claim7.holds Tryz.pinned (.plain (OpenSpec.upto worldEndsSpec)) worldEndsUptoCard

/-- THE SECOND FORM's CARD OF 'partkeep.WorldLine'. -/
def worldLineUptoCard : Claim7 := { stood := { row := worldLineUptoRow, standIns := [], harness := (true, "c9434ef6de60f9d582221c556ace6c0af2080188a2f80eb4dc6e3732ead1fd29"), looks := true }, kinds := [], alts := [], laidByText := true, laidKinds := [.data, .data, .data, .sentinel, .sentinel], laidTests := true, laidLooks := .later }
def WorldLineUptoCardSaid : Prop := Claim7.holds Tryz.pinned (.plain (OpenSpec.upto worldLineSpec)) worldLineUptoCard

/-- THE SECOND FORM's CARD OF 'partkeep.WorldChanges'. -/
def worldChangesUptoCard : Claim7 := { stood := { row := worldChangesUptoRow, standIns := [], harness := (true, "c9434ef6de60f9d582221c556ace6c0af2080188a2f80eb4dc6e3732ead1fd29"), looks := true }, kinds := [], alts := [], laidByText := true, laidKinds := [.data, .data, .data, .data, .sentinel, .sentinel, .pinned], laidTests := true, laidLooks := .later }
def WorldChangesUptoCardSaid : Prop := Claim7.holds Tryz.pinned (.plain (OpenSpec.upto worldChangesSpec)) worldChangesUptoCard

/-- THE SECOND FORM's CARD OF 'partkeep.WorldOwn'. -/
def worldOwnUptoCard : Claim7 := { stood := { row := worldOwnUptoRow, standIns := [], harness := (true, "c9434ef6de60f9d582221c556ace6c0af2080188a2f80eb4dc6e3732ead1fd29"), looks := true }, kinds := [], alts := [], laidByText := true, laidKinds := [.data, .data, .data, .data, .sentinel, .sentinel, .pinned], laidTests := true, laidLooks := .later }
def WorldOwnUptoCardSaid : Prop := Claim7.holds Tryz.pinned (.plain (OpenSpec.upto worldOwnSpec)) worldOwnUptoCard

/-- THE SECOND FORM's CARD OF 'partkeep.WorldQuiet'. -/
def worldQuietUptoCard : Claim7 := { stood := { row := worldQuietUptoRow, standIns := [], harness := (true, "c9434ef6de60f9d582221c556ace6c0af2080188a2f80eb4dc6e3732ead1fd29"), looks := true }, kinds := [], alts := [], laidByText := true, laidKinds := [.data, .data, .data, .data, .sentinel, .sentinel, .pinned], laidTests := true, laidLooks := .later }
def WorldQuietUptoCardSaid : Prop := Claim7.holds Tryz.pinned (.plain (OpenSpec.upto worldQuietSpec)) worldQuietUptoCard

/-- THE SECOND FORM's CARD OF 'parttop.TopSplit'. -/
def topSplitUptoCard : Claim7 := { stood := { row := topSplitUptoRow, standIns := [], harness := (true, "c9434ef6de60f9d582221c556ace6c0af2080188a2f80eb4dc6e3732ead1fd29"), looks := true }, kinds := [], alts := [], laidByText := true, laidKinds := [.data, .data, .data, .data, .sentinel, .sentinel, .pinned], laidTests := true, laidLooks := .later }
def TopSplitUptoCardSaid : Prop := Claim7.holds Tryz.pinned (.plain (OpenSpec.upto topSplitSpec)) topSplitUptoCard

/-- THE SECOND FORM's CARD OF 'parttop.TopFront'. -/
def topFrontUptoCard : Claim7 := { stood := { row := topFrontUptoRow, standIns := [], harness := (true, "c9434ef6de60f9d582221c556ace6c0af2080188a2f80eb4dc6e3732ead1fd29"), looks := true }, kinds := [], alts := [], laidByText := true, laidKinds := [.data, .data, .data, .data, .sentinel, .sentinel, .pinned], laidTests := true, laidLooks := .later }
def TopFrontUptoCardSaid : Prop := Claim7.holds Tryz.pinned (.plain (OpenSpec.upto topFrontSpec)) topFrontUptoCard
end Rows
end Go.Proofs.YtijlnmgondibnaaGreatDoor
