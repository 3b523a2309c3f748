/-
  DERIVED. GIVEN WITH THE SEED: THE CARDS: each row of YtbaeajgfnoplaaaGreatDoorRows.lean that lists a variable, with what it lists TIED to the program's text (the seventh form; the later family's looks); each row that meets fmt, with fmt's text TOLD by the authors' own Lean function (tested against real Go, not proved from fmt's source: count such statements apart). THE CARD IS WHAT COUNTS. Prove the row's statement (the work); the ties are given (YtbaeajgfnoplaaaGreatDoorTie.lean); close each card by the builder's one call (the guide's Derived/Test/ToyasCard.lean, 'card_holds'). Laid BY PROGRAM, IN A SANDBOX (cutbox-door.mjs). By AI agents, Wed Nov 11 2026. No macro, syntax, notation, axiom, sorry.
-/
import Derived.Test.YtbaeajgfnoplaaaGreatDoorRows
import GoSem.ClaimSeven
namespace Go.Proofs.YtbaeajgfnoplaaaGreatDoor
namespace Rows

/-- THE TIED CARD OF 'hearthlaw02.ReadTokens'. -/
def readTokensCard : Claim7 := { stood := { row := readTokensRow, standIns := [], harness := (true, "d53804c3a3a244ad5d34017486a33217318808ae0f4e262f4ba89cadc3ea57b4"), looks := true }, kinds := [], alts := [], laidByText := true, laidKinds := [.data, .data, .data], laidTests := true, laidLooks := .later }
def ReadTokensCardSaid : Prop := Claim7.holds Tryz.pinned (.plain (OpenSpec.ofChange readTokensSpec)) readTokensCard

/-- THE TIED CARD OF 'hearthlaw02.ReadTerms'. -/
def readTermsCard : Claim7 := { stood := { row := readTermsRow, standIns := [], harness := (true, "d53804c3a3a244ad5d34017486a33217318808ae0f4e262f4ba89cadc3ea57b4"), looks := true }, kinds := [], alts := [], laidByText := true, laidKinds := [.data, .data, .data], laidTests := true, laidLooks := .later }
def ReadTermsCardSaid : Prop := Claim7.holds Tryz.pinned (.plain (OpenSpec.ofChange readTermsSpec)) readTermsCard

/-- THE TIED CARD OF 'hearthlaw02.ReadTypes'. -/
def readTypesCard : Claim7 := { stood := { row := readTypesRow, standIns := [], harness := (true, "d53804c3a3a244ad5d34017486a33217318808ae0f4e262f4ba89cadc3ea57b4"), looks := true }, kinds := [], alts := [], laidByText := true, laidKinds := [.data, .data, .data], laidTests := true, laidLooks := .later }
def ReadTypesCardSaid : Prop := Claim7.holds Tryz.pinned (.plain (OpenSpec.ofChange readTypesSpec)) readTypesCard

/-- THE TIED CARD OF 'hearthlaw02.ReadStops'. -/
def readStopsCard : Claim7 := { stood := { row := readStopsRow, standIns := [], harness := (true, "d53804c3a3a244ad5d34017486a33217318808ae0f4e262f4ba89cadc3ea57b4"), looks := true }, kinds := [], alts := [], laidByText := true, laidKinds := [.data, .data, .data], laidTests := true, laidLooks := .later }
def ReadStopsCardSaid : Prop := Claim7.holds Tryz.pinned (.plain (OpenSpec.ofChange readStopsSpec)) readStopsCard

/-- THE TIED CARD OF 'hearthlaw02.ReadBrackets'. -/
def readBracketsCard : Claim7 := { stood := { row := readBracketsRow, standIns := [], harness := (true, "d53804c3a3a244ad5d34017486a33217318808ae0f4e262f4ba89cadc3ea57b4"), looks := true }, kinds := [], alts := [], laidByText := true, laidKinds := [.data, .data, .data], laidTests := true, laidLooks := .later }
def ReadBracketsCardSaid : Prop := Claim7.holds Tryz.pinned (.plain (OpenSpec.ofChange readBracketsSpec)) readBracketsCard

/-- THE TIED CARD OF 'hearthlaw02.ReadOnce'. -/
def readOnceCard : Claim7 := { stood := { row := readOnceRow, standIns := [], harness := (true, "d53804c3a3a244ad5d34017486a33217318808ae0f4e262f4ba89cadc3ea57b4"), looks := true }, kinds := [], alts := [], laidByText := true, laidKinds := [.data, .data, .data], laidTests := true, laidLooks := .later }
def ReadOnceCardSaid : Prop := Claim7.holds Tryz.pinned (.plain (OpenSpec.ofChange readOnceSpec)) readOnceCard

/-- THE TIED CARD OF 'hearthlaw02.ReadWords'. -/
def readWordsCard : Claim7 := { stood := { row := readWordsRow, standIns := [], harness := (true, "d53804c3a3a244ad5d34017486a33217318808ae0f4e262f4ba89cadc3ea57b4"), looks := true }, kinds := [], alts := [], laidByText := true, laidKinds := [.data, .data, .data], laidTests := true, laidLooks := .later }
def ReadWordsCardSaid : Prop := Claim7.holds Tryz.pinned (.plain (OpenSpec.ofChange readWordsSpec)) readWordsCard

/-- THE TIED CARD OF 'hearthlaw02.ReadParses'. -/
def readParsesCard : Claim7 := { stood := { row := readParsesRow, standIns := [], harness := (true, "d53804c3a3a244ad5d34017486a33217318808ae0f4e262f4ba89cadc3ea57b4"), looks := true }, kinds := [], alts := [], laidByText := true, laidKinds := [.data, .data, .data], laidTests := true, laidLooks := .later }
def ReadParsesCardSaid : Prop := Claim7.holds Tryz.pinned (.plain (OpenSpec.ofChange readParsesSpec)) readParsesCard

/-- THE TIED CARD OF 'hearthlaw02.ReadPrefix'. -/
def readPrefixCard : Claim7 := { stood := { row := readPrefixRow, standIns := [], harness := (true, "d53804c3a3a244ad5d34017486a33217318808ae0f4e262f4ba89cadc3ea57b4"), looks := true }, kinds := [], alts := [], laidByText := true, laidKinds := [.data, .data, .data], laidTests := true, laidLooks := .later }
def ReadPrefixCardSaid : Prop := Claim7.holds Tryz.pinned (.plain (OpenSpec.ofChange readPrefixSpec)) readPrefixCard

/-- THE TIED CARD OF 'hearthlaw02.ReadSpaces'. -/
def readSpacesCard : Claim7 := { stood := { row := readSpacesRow, standIns := [], harness := (true, "d53804c3a3a244ad5d34017486a33217318808ae0f4e262f4ba89cadc3ea57b4"), looks := true }, kinds := [], alts := [], laidByText := true, laidKinds := [.data, .data, .data], laidTests := true, laidLooks := .later }
def ReadSpacesCardSaid : Prop := Claim7.holds Tryz.pinned (.plain (OpenSpec.ofChange readSpacesSpec)) readSpacesCard

/-- THE TIED CARD OF 'hearthlaw02.ReadModules'. -/
def readModulesCard : Claim7 := { stood := { row := readModulesRow, standIns := [], harness := (true, "d53804c3a3a244ad5d34017486a33217318808ae0f4e262f4ba89cadc3ea57b4"), looks := true }, kinds := [], alts := [], laidByText := true, laidKinds := [.data, .data, .data], laidTests := true, laidLooks := .later }
def ReadModulesCardSaid : Prop := Claim7.holds Tryz.pinned (.plain (OpenSpec.ofChange readModulesSpec)) readModulesCard

/-- THE SECOND FORM's CARD OF 'hearthlaw02.ReadTokens'. -/
def readTokensUptoCard : Claim7 := { stood := { row := readTokensUptoRow, standIns := [], harness := (true, "d53804c3a3a244ad5d34017486a33217318808ae0f4e262f4ba89cadc3ea57b4"), looks := true }, kinds := [], alts := [], laidByText := true, laidKinds := [.data, .data, .data], laidTests := true, laidLooks := .later }
def ReadTokensUptoCardSaid : Prop := Claim7.holds Tryz.pinned (.plain (OpenSpec.upto readTokensSpec)) readTokensUptoCard

/-- THE SECOND FORM's CARD OF 'hearthlaw02.ReadTerms'. -/
def readTermsUptoCard : Claim7 := { stood := { row := readTermsUptoRow, standIns := [], harness := (true, "d53804c3a3a244ad5d34017486a33217318808ae0f4e262f4ba89cadc3ea57b4"), looks := true }, kinds := [], alts := [], laidByText := true, laidKinds := [.data, .data, .data], laidTests := true, laidLooks := .later }
def ReadTermsUptoCardSaid : Prop := Claim7.holds Tryz.pinned (.plain (OpenSpec.upto readTermsSpec)) readTermsUptoCard

/-- THE SECOND FORM's CARD OF 'hearthlaw02.ReadTypes'. -/
def readTypesUptoCard : Claim7 := { stood := { row := readTypesUptoRow, standIns := [], harness := (true, "d53804c3a3a244ad5d34017486a33217318808ae0f4e262f4ba89cadc3ea57b4"), looks := true }, kinds := [], alts := [], laidByText := true, laidKinds := [.data, .data, .data], laidTests := true, laidLooks := .later }
def ReadTypesUptoCardSaid : Prop := Claim7.holds Tryz.pinned (.plain (OpenSpec.upto readTypesSpec)) readTypesUptoCard

/-- THE SECOND FORM's CARD OF 'hearthlaw02.ReadStops'. -/
def readStopsUptoCard : Claim7 := { stood := { row := readStopsUptoRow, standIns := [], harness := (true, "d53804c3a3a244ad5d34017486a33217318808ae0f4e262f4ba89cadc3ea57b4"), looks := true }, kinds := [], alts := [], laidByText := true, laidKinds := [.data, .data, .data], laidTests := true, laidLooks := .later }
def ReadStopsUptoCardSaid : Prop := Claim7.holds Tryz.pinned (.plain (OpenSpec.upto readStopsSpec)) readStopsUptoCard

/-- THE SECOND FORM's CARD OF 'hearthlaw02.ReadBrackets'. -/
def readBracketsUptoCard : Claim7 := { stood := { row := readBracketsUptoRow, standIns := [], harness := (true, "d53804c3a3a244ad5d34017486a33217318808ae0f4e262f4ba89cadc3ea57b4"), looks := true }, kinds := [], alts := [], laidByText := true, laidKinds := [.data, .data, .data], laidTests := true, laidLooks := .later }
def ReadBracketsUptoCardSaid : Prop := Claim7.holds Tryz.pinned (.plain (OpenSpec.upto readBracketsSpec)) readBracketsUptoCard

/-- THE SECOND FORM's CARD OF 'hearthlaw02.ReadOnce'. -/
def readOnceUptoCard : Claim7 := { stood := { row := readOnceUptoRow, standIns := [], harness := (true, "d53804c3a3a244ad5d34017486a33217318808ae0f4e262f4ba89cadc3ea57b4"), looks := true }, kinds := [], alts := [], laidByText := true, laidKinds := [.data, .data, .data], laidTests := true, laidLooks := .later }
def ReadOnceUptoCardSaid : Prop := Claim7.holds Tryz.pinned (.plain (OpenSpec.upto readOnceSpec)) readOnceUptoCard

/-- THE SECOND FORM's CARD OF 'hearthlaw02.ReadWords'. -/
def readWordsUptoCard : Claim7 := { stood := { row := readWordsUptoRow, standIns := [], harness := (true, "d53804c3a3a244ad5d34017486a33217318808ae0f4e262f4ba89cadc3ea57b4"), looks := true }, kinds := [], alts := [], laidByText := true, laidKinds := [.data, .data, .data], laidTests := true, laidLooks := .later }
def ReadWordsUptoCardSaid : Prop := Claim7.holds Tryz.pinned (.plain (OpenSpec.upto readWordsSpec)) readWordsUptoCard

/-- THE SECOND FORM's CARD OF 'hearthlaw02.ReadParses'. -/
def readParsesUptoCard : Claim7 := { stood := { row := readParsesUptoRow, standIns := [], harness := (true, "d53804c3a3a244ad5d34017486a33217318808ae0f4e262f4ba89cadc3ea57b4"), looks := true }, kinds := [], alts := [], laidByText := true, laidKinds := [.data, .data, .data], laidTests := true, laidLooks := .later }
def ReadParsesUptoCardSaid : Prop := Claim7.holds Tryz.pinned (.plain (OpenSpec.upto readParsesSpec)) readParsesUptoCard

/-- THE SECOND FORM's CARD OF 'hearthlaw02.ReadPrefix'. -/
def readPrefixUptoCard : Claim7 := { stood := { row := readPrefixUptoRow, standIns := [], harness := (true, "d53804c3a3a244ad5d34017486a33217318808ae0f4e262f4ba89cadc3ea57b4"), looks := true }, kinds := [], alts := [], laidByText := true, laidKinds := [.data, .data, .data], laidTests := true, laidLooks := .later }
def ReadPrefixUptoCardSaid : Prop := Claim7.holds Tryz.pinned (.plain (OpenSpec.upto readPrefixSpec)) readPrefixUptoCard

/-- THE SECOND FORM's CARD OF 'hearthlaw02.ReadSpaces'. -/
def readSpacesUptoCard : Claim7 := { stood := { row := readSpacesUptoRow, standIns := [], harness := (true, "d53804c3a3a244ad5d34017486a33217318808ae0f4e262f4ba89cadc3ea57b4"), looks := true }, kinds := [], alts := [], laidByText := true, laidKinds := [.data, .data, .data], laidTests := true, laidLooks := .later }
def ReadSpacesUptoCardSaid : Prop := Claim7.holds Tryz.pinned (.plain (OpenSpec.upto readSpacesSpec)) readSpacesUptoCard

/-- THE SECOND FORM's CARD OF 'hearthlaw02.ReadModules'. -/
def readModulesUptoCard : Claim7 := { stood := { row := readModulesUptoRow, standIns := [], harness := (true, "d53804c3a3a244ad5d34017486a33217318808ae0f4e262f4ba89cadc3ea57b4"), looks := true }, kinds := [], alts := [], laidByText := true, laidKinds := [.data, .data, .data], laidTests := true, laidLooks := .later }
def ReadModulesUptoCardSaid : Prop := Claim7.holds Tryz.pinned (.plain (OpenSpec.upto readModulesSpec)) readModulesUptoCard
end Rows
end Go.Proofs.YtbaeajgfnoplaaaGreatDoor
