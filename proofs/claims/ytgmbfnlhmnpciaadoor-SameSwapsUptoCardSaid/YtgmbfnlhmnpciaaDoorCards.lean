/-
  DERIVED. GIVEN WITH THE SEED: THE CARDS: each row of YtgmbfnlhmnpciaaDoorRows.lean that lists a variable, with what it lists TIED to the program's text (the seventh form; the later family's looks); each row that meets fmt, with fmt's text TOLD by the authors' own Lean function (tested against real Go, not proved from fmt's source: count such statements apart). THE CARD IS WHAT COUNTS. Prove the row's statement (the work); the ties are given (YtgmbfnlhmnpciaaDoorTie.lean); close each card by the builder's one call (the guide's Derived/Test/ToyasCard.lean, 'card_holds'). Laid BY PROGRAM, IN A SANDBOX (cutbox-door.mjs). By AI agents, Wed Nov 11 2026. No macro, syntax, notation, axiom, sorry.
-/
import Derived.Test.YtgmbfnlhmnpciaaDoorRows
import GoSem.ClaimSeven
namespace Go.Proofs.YtgmbfnlhmnpciaaDoor
namespace Rows

/-- THE TIED CARD OF 'partkeep.CausalLine'. -/
def causalLineCard : Claim7 := { stood := { row := causalLineRow, standIns := [], harness := (true, "2b05ed7b874ccfe87a0b7305707f9901758c100f827666af244814ff98a37acc"), looks := true }, kinds := [], alts := [], laidByText := true, laidKinds := [.data, .data, .data], laidTests := true, laidLooks := .later }
def CausalLineCardSaid : Prop := Claim7.holds Tryd.pinned (.plain (OpenSpec.ofChange causalLineSpec)) causalLineCard

/-- THE TIED CARD OF 'partkeep.CausalAll'. -/
def causalAllCard : Claim7 := { stood := { row := causalAllRow, standIns := [], harness := (true, "2b05ed7b874ccfe87a0b7305707f9901758c100f827666af244814ff98a37acc"), looks := true }, kinds := [], alts := [], laidByText := true, laidKinds := [.data, .data, .data], laidTests := true, laidLooks := .later }
def CausalAllCardSaid : Prop := Claim7.holds Tryd.pinned (.plain (OpenSpec.ofChange causalAllSpec)) causalAllCard

/-- THE TIED CARD OF 'partkeep.CausalOrder'. -/
def causalOrderCard : Claim7 := { stood := { row := causalOrderRow, standIns := [], harness := (true, "2b05ed7b874ccfe87a0b7305707f9901758c100f827666af244814ff98a37acc"), looks := true }, kinds := [], alts := [], laidByText := true, laidKinds := [.data, .data, .data], laidTests := true, laidLooks := .later }
def CausalOrderCardSaid : Prop := Claim7.holds Tryd.pinned (.plain (OpenSpec.ofChange causalOrderSpec)) causalOrderCard

/-- THE TIED CARD OF 'partkeep.SameKey'. -/
def sameKeyCard : Claim7 := { stood := { row := sameKeyRow, standIns := [], harness := (true, "2b05ed7b874ccfe87a0b7305707f9901758c100f827666af244814ff98a37acc"), looks := true }, kinds := [], alts := [], laidByText := true, laidKinds := [.data, .data, .data, .data, .sentinel, .sentinel, .pinned], laidTests := true, laidLooks := .later }
def SameKeyCardSaid : Prop := Claim7.holds Tryd.pinned (.plain (OpenSpec.ofChange sameKeySpec)) sameKeyCard

/-- THE TIED CARD OF 'partkeep.SameSwaps'. -/
def sameSwapsCard : Claim7 := { stood := { row := sameSwapsRow, standIns := [], harness := (true, "2b05ed7b874ccfe87a0b7305707f9901758c100f827666af244814ff98a37acc"), looks := true }, kinds := [], alts := [], laidByText := true, laidKinds := [.data, .data, .data, .data, .sentinel, .sentinel, .pinned], laidTests := true, laidLooks := .later }
def SameSwapsCardSaid : Prop := Claim7.holds Tryd.pinned (.plain (OpenSpec.ofChange sameSwapsSpec)) sameSwapsCard

/-- THE TIED CARD OF 'partkeep.SameLine'. -/
def sameLineCard : Claim7 := { stood := { row := sameLineRow, standIns := [], harness := (true, "2b05ed7b874ccfe87a0b7305707f9901758c100f827666af244814ff98a37acc"), looks := true }, kinds := [], alts := [], laidByText := true, laidKinds := [.data, .data, .data, .data, .sentinel, .sentinel, .pinned], laidTests := true, laidLooks := .later }
def SameLineCardSaid : Prop := Claim7.holds Tryd.pinned (.plain (OpenSpec.ofChange sameLineSpec)) sameLineCard

/-- THE TIED CARD OF 'partkeep.SamePrefix'. -/
def samePrefixCard : Claim7 := { stood := { row := samePrefixRow, standIns := [], harness := (true, "2b05ed7b874ccfe87a0b7305707f9901758c100f827666af244814ff98a37acc"), looks := true }, kinds := [], alts := [], laidByText := true, laidKinds := [.data, .data, .data, .data, .sentinel, .sentinel, .pinned], laidTests := true, laidLooks := .later }
def SamePrefixCardSaid : Prop := Claim7.holds Tryd.pinned (.plain (OpenSpec.ofChange samePrefixSpec)) samePrefixCard

/-- THE SECOND FORM's CARD OF 'partkeep.CausalLine'. -/
def causalLineUptoCard : Claim7 := { stood := { row := causalLineUptoRow, standIns := [], harness := (true, "2b05ed7b874ccfe87a0b7305707f9901758c100f827666af244814ff98a37acc"), looks := true }, kinds := [], alts := [], laidByText := true, laidKinds := [.data, .data, .data], laidTests := true, laidLooks := .later }
def CausalLineUptoCardSaid : Prop := Claim7.holds Tryd.pinned (.plain (OpenSpec.upto causalLineSpec)) causalLineUptoCard

/-- THE SECOND FORM's CARD OF 'partkeep.CausalAll'. -/
def causalAllUptoCard : Claim7 := { stood := { row := causalAllUptoRow, standIns := [], harness := (true, "2b05ed7b874ccfe87a0b7305707f9901758c100f827666af244814ff98a37acc"), looks := true }, kinds := [], alts := [], laidByText := true, laidKinds := [.data, .data, .data], laidTests := true, laidLooks := .later }
def CausalAllUptoCardSaid : Prop := Claim7.holds Tryd.pinned (.plain (OpenSpec.upto causalAllSpec)) causalAllUptoCard

/-- THE SECOND FORM's CARD OF 'partkeep.CausalOrder'. -/
def causalOrderUptoCard : Claim7 := { stood := { row := causalOrderUptoRow, standIns := [], harness := (true, "2b05ed7b874ccfe87a0b7305707f9901758c100f827666af244814ff98a37acc"), looks := true }, kinds := [], alts := [], laidByText := true, laidKinds := [.data, .data, .data], laidTests := true, laidLooks := .later }
def CausalOrderUptoCardSaid : Prop := Claim7.holds Tryd.pinned (.plain (OpenSpec.upto causalOrderSpec)) causalOrderUptoCard

/-- THE SECOND FORM's CARD OF 'partkeep.SameKey'. -/
def sameKeyUptoCard : Claim7 := { stood := { row := sameKeyUptoRow, standIns := [], harness := (true, "2b05ed7b874ccfe87a0b7305707f9901758c100f827666af244814ff98a37acc"), looks := true }, kinds := [], alts := [], laidByText := true, laidKinds := [.data, .data, .data, .data, .sentinel, .sentinel, .pinned], laidTests := true, laidLooks := .later }
def SameKeyUptoCardSaid : Prop := Claim7.holds Tryd.pinned (.plain (OpenSpec.upto sameKeySpec)) sameKeyUptoCard

/-- THE SECOND FORM's CARD OF 'partkeep.SameSwaps'. -/
def sameSwapsUptoCard : Claim7 := { stood := { row := sameSwapsUptoRow, standIns := [], harness := (true, "2b05ed7b874ccfe87a0b7305707f9901758c100f827666af244814ff98a37acc"), looks := true }, kinds := [], alts := [], laidByText := true, laidKinds := [.data, .data, .data, .data, .sentinel, .sentinel, .pinned], laidTests := true, laidLooks := .later }
def SameSwapsUptoCardSaid : Prop := Claim7.holds Tryd.pinned (.plain (OpenSpec.upto sameSwapsSpec)) sameSwapsUptoCard

/-- THE SECOND FORM's CARD OF 'partkeep.SameLine'. -/
def sameLineUptoCard : Claim7 := { stood := { row := sameLineUptoRow, standIns := [], harness := (true, "2b05ed7b874ccfe87a0b7305707f9901758c100f827666af244814ff98a37acc"), looks := true }, kinds := [], alts := [], laidByText := true, laidKinds := [.data, .data, .data, .data, .sentinel, .sentinel, .pinned], laidTests := true, laidLooks := .later }
def SameLineUptoCardSaid : Prop := Claim7.holds Tryd.pinned (.plain (OpenSpec.upto sameLineSpec)) sameLineUptoCard

/-- THE SECOND FORM's CARD OF 'partkeep.SamePrefix'. -/
def samePrefixUptoCard : Claim7 := { stood := { row := samePrefixUptoRow, standIns := [], harness := (true, "2b05ed7b874ccfe87a0b7305707f9901758c100f827666af244814ff98a37acc"), looks := true }, kinds := [], alts := [], laidByText := true, laidKinds := [.data, .data, .data, .data, .sentinel, .sentinel, .pinned], laidTests := true, laidLooks := .later }
def SamePrefixUptoCardSaid : Prop := Claim7.holds Tryd.pinned (.plain (OpenSpec.upto samePrefixSpec)) samePrefixUptoCard
end Rows
end Go.Proofs.YtgmbfnlhmnpciaaDoor
