/-
  DERIVED. GIVEN WITH THE SEED: THE CARDS: each row of YtjaobihcdkjmbaaGreatDoorRows.lean that lists a variable, with what it lists TIED to the program's text (the seventh form; the later family's looks); each row that meets fmt, with fmt's text TOLD by the authors' own Lean function (tested against real Go, not proved from fmt's source: count such statements apart). THE CARD IS WHAT COUNTS. Prove the row's statement (the work); the ties are given (YtjaobihcdkjmbaaGreatDoorTie.lean); close each card by the builder's one call (the guide's Derived/Test/ToyasCard.lean, 'card_holds'). Laid BY PROGRAM, IN A SANDBOX (cutbox-door.mjs). By AI agents, Wed Nov 11 2026. No macro, syntax, notation, axiom, sorry.
-/
import Derived.Test.YtjaobihcdkjmbaaGreatDoorRows
import GoSem.ClaimSeven
namespace Go.Proofs.YtjaobihcdkjmbaaGreatDoor
namespace Rows

/-- THE TIED CARD OF 'metewandlaw13.ReadTokens'. -/
def readTokensCard : Claim7 := { stood := { row := readTokensRow, standIns := [], harness := (true, "4a701514cfe5baa6fd44ef8b775f3f2cd4d4be6e1e34664429ea3dc4aa3655a8"), looks := true }, kinds := [], alts := [], laidByText := true, laidKinds := [.data, .data, .data, .handle, .sentinel, .sentinel], laidTests := true, laidLooks := .later }
def ReadTokensCardSaid : Prop := Claim7.holds Tryz.pinned (.plain (OpenSpec.ofChange readTokensSpec)) readTokensCard

/-- THE TIED CARD OF 'metewandlaw13.ReadCanon'. -/
def readCanonCard : Claim7 := { stood := { row := readCanonRow, standIns := [], harness := (true, "4a701514cfe5baa6fd44ef8b775f3f2cd4d4be6e1e34664429ea3dc4aa3655a8"), looks := true }, kinds := [], alts := [], laidByText := true, laidKinds := [.data, .data, .data, .handle, .sentinel, .sentinel], laidTests := true, laidLooks := .later }
def ReadCanonCardSaid : Prop := Claim7.holds Tryz.pinned (.plain (OpenSpec.ofChange readCanonSpec)) readCanonCard

/-- THE TIED CARD OF 'metewandlaw13.ReadBlanks'. -/
def readBlanksCard : Claim7 := { stood := { row := readBlanksRow, standIns := [], harness := (true, "4a701514cfe5baa6fd44ef8b775f3f2cd4d4be6e1e34664429ea3dc4aa3655a8"), looks := true }, kinds := [], alts := [], laidByText := true, laidKinds := [.data, .data, .data, .handle, .sentinel, .sentinel], laidTests := true, laidLooks := .later }
def ReadBlanksCardSaid : Prop := Claim7.holds Tryz.pinned (.plain (OpenSpec.ofChange readBlanksSpec)) readBlanksCard

/-- THE TIED CARD OF 'metewandlaw13.ReadPlace'. -/
def readPlaceCard : Claim7 := { stood := { row := readPlaceRow, standIns := [], harness := (true, "4a701514cfe5baa6fd44ef8b775f3f2cd4d4be6e1e34664429ea3dc4aa3655a8"), looks := true }, kinds := [], alts := [], laidByText := true, laidKinds := [.data, .data, .data, .handle, .sentinel, .sentinel], laidTests := true, laidLooks := .later }
def ReadPlaceCardSaid : Prop := Claim7.holds Tryz.pinned (.plain (OpenSpec.ofChange readPlaceSpec)) readPlaceCard

/-- THE TIED CARD OF 'metewandlaw13.ReadChecks'. -/
def readChecksCard : Claim7 := { stood := { row := readChecksRow, standIns := [], harness := (true, "4a701514cfe5baa6fd44ef8b775f3f2cd4d4be6e1e34664429ea3dc4aa3655a8"), looks := true }, kinds := [], alts := [], laidByText := true, laidKinds := [.data, .data, .data, .handle, .sentinel, .sentinel], laidTests := true, laidLooks := .later }
def ReadChecksCardSaid : Prop := Claim7.holds Tryz.pinned (.plain (OpenSpec.ofChange readChecksSpec)) readChecksCard

/-- THE TIED CARD OF 'metewandlaw13.ReadFree'. -/
def readFreeCard : Claim7 := { stood := { row := readFreeRow, standIns := [], harness := (true, "4a701514cfe5baa6fd44ef8b775f3f2cd4d4be6e1e34664429ea3dc4aa3655a8"), looks := true }, kinds := [], alts := [], laidByText := true, laidKinds := [.data, .data, .data, .handle, .sentinel, .sentinel], laidTests := true, laidLooks := .later }
def ReadFreeCardSaid : Prop := Claim7.holds Tryz.pinned (.plain (OpenSpec.ofChange readFreeSpec)) readFreeCard

/-- THE TIED CARD OF 'metewandlaw13.ReadNames'. -/
def readNamesCard : Claim7 := { stood := { row := readNamesRow, standIns := [], harness := (true, "4a701514cfe5baa6fd44ef8b775f3f2cd4d4be6e1e34664429ea3dc4aa3655a8"), looks := true }, kinds := [], alts := [], laidByText := true, laidKinds := [.data, .data, .data, .handle, .sentinel, .sentinel], laidTests := true, laidLooks := .later }
def ReadNamesCardSaid : Prop := Claim7.holds Tryz.pinned (.plain (OpenSpec.ofChange readNamesSpec)) readNamesCard

/-- THE SECOND FORM's CARD OF 'metewandlaw13.ReadTokens'. -/
def readTokensUptoCard : Claim7 := { stood := { row := readTokensUptoRow, standIns := [], harness := (true, "4a701514cfe5baa6fd44ef8b775f3f2cd4d4be6e1e34664429ea3dc4aa3655a8"), looks := true }, kinds := [], alts := [], laidByText := true, laidKinds := [.data, .data, .data, .handle, .sentinel, .sentinel], laidTests := true, laidLooks := .later }
def ReadTokensUptoCardSaid : Prop := Claim7.holds Tryz.pinned (.plain (OpenSpec.upto readTokensSpec)) readTokensUptoCard

/-- THE SECOND FORM's CARD OF 'metewandlaw13.ReadCanon'. -/
def readCanonUptoCard : Claim7 := { stood := { row := readCanonUptoRow, standIns := [], harness := (true, "4a701514cfe5baa6fd44ef8b775f3f2cd4d4be6e1e34664429ea3dc4aa3655a8"), looks := true }, kinds := [], alts := [], laidByText := true, laidKinds := [.data, .data, .data, .handle, .sentinel, .sentinel], laidTests := true, laidLooks := .later }
def ReadCanonUptoCardSaid : Prop := Claim7.holds Tryz.pinned (.plain (OpenSpec.upto readCanonSpec)) readCanonUptoCard

/-- THE SECOND FORM's CARD OF 'metewandlaw13.ReadBlanks'. -/
def readBlanksUptoCard : Claim7 := { stood := { row := readBlanksUptoRow, standIns := [], harness := (true, "4a701514cfe5baa6fd44ef8b775f3f2cd4d4be6e1e34664429ea3dc4aa3655a8"), looks := true }, kinds := [], alts := [], laidByText := true, laidKinds := [.data, .data, .data, .handle, .sentinel, .sentinel], laidTests := true, laidLooks := .later }
def ReadBlanksUptoCardSaid : Prop := Claim7.holds Tryz.pinned (.plain (OpenSpec.upto readBlanksSpec)) readBlanksUptoCard

/-- THE SECOND FORM's CARD OF 'metewandlaw13.ReadPlace'. -/
def readPlaceUptoCard : Claim7 := { stood := { row := readPlaceUptoRow, standIns := [], harness := (true, "4a701514cfe5baa6fd44ef8b775f3f2cd4d4be6e1e34664429ea3dc4aa3655a8"), looks := true }, kinds := [], alts := [], laidByText := true, laidKinds := [.data, .data, .data, .handle, .sentinel, .sentinel], laidTests := true, laidLooks := .later }
def ReadPlaceUptoCardSaid : Prop := Claim7.holds Tryz.pinned (.plain (OpenSpec.upto readPlaceSpec)) readPlaceUptoCard

/-- THE SECOND FORM's CARD OF 'metewandlaw13.ReadChecks'. -/
def readChecksUptoCard : Claim7 := { stood := { row := readChecksUptoRow, standIns := [], harness := (true, "4a701514cfe5baa6fd44ef8b775f3f2cd4d4be6e1e34664429ea3dc4aa3655a8"), looks := true }, kinds := [], alts := [], laidByText := true, laidKinds := [.data, .data, .data, .handle, .sentinel, .sentinel], laidTests := true, laidLooks := .later }
def ReadChecksUptoCardSaid : Prop := Claim7.holds Tryz.pinned (.plain (OpenSpec.upto readChecksSpec)) readChecksUptoCard

/-- THE SECOND FORM's CARD OF 'metewandlaw13.ReadFree'. -/
def readFreeUptoCard : Claim7 := { stood := { row := readFreeUptoRow, standIns := [], harness := (true, "4a701514cfe5baa6fd44ef8b775f3f2cd4d4be6e1e34664429ea3dc4aa3655a8"), looks := true }, kinds := [], alts := [], laidByText := true, laidKinds := [.data, .data, .data, .handle, .sentinel, .sentinel], laidTests := true, laidLooks := .later }
def ReadFreeUptoCardSaid : Prop := Claim7.holds Tryz.pinned (.plain (OpenSpec.upto readFreeSpec)) readFreeUptoCard

/-- THE SECOND FORM's CARD OF 'metewandlaw13.ReadNames'. -/
def readNamesUptoCard : Claim7 := { stood := { row := readNamesUptoRow, standIns := [], harness := (true, "4a701514cfe5baa6fd44ef8b775f3f2cd4d4be6e1e34664429ea3dc4aa3655a8"), looks := true }, kinds := [], alts := [], laidByText := true, laidKinds := [.data, .data, .data, .handle, .sentinel, .sentinel], laidTests := true, laidLooks := .later }
def ReadNamesUptoCardSaid : Prop := Claim7.holds Tryz.pinned (.plain (OpenSpec.upto readNamesSpec)) readNamesUptoCard
end Rows
end Go.Proofs.YtjaobihcdkjmbaaGreatDoor
