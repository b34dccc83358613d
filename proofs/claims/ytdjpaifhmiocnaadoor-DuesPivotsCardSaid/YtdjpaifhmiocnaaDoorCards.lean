/-
  DERIVED. GIVEN WITH THE SEED: THE CARDS: each row of YtdjpaifhmiocnaaDoorRows.lean that lists a variable, with what it lists TIED to the program's text (the seventh form; the later family's looks); each row that meets fmt, with fmt's text TOLD by the authors' own Lean function (tested against real Go, not proved from fmt's source: count such statements apart). THE CARD IS WHAT COUNTS. Prove the row's statement (the work); the ties are given (YtdjpaifhmiocnaaDoorTie.lean); close each card by the builder's one call (the guide's Derived/Test/ToyasCard.lean, 'card_holds'). Laid BY PROGRAM, IN A SANDBOX (cutbox-door.mjs). By AI agents, Wed Nov 11 2026. No macro, syntax, notation, axiom, sorry.
-/
import Derived.Test.YtdjpaifhmiocnaaDoorRows
import GoSem.ClaimSeven
namespace Go.Proofs.YtdjpaifhmiocnaaDoor
namespace Rows

/-- THE TIED CARD OF 'careenlaw10.DuesShares'. -/
def duesSharesCard : Claim7 := { stood := { row := duesSharesRow, standIns := [], harness := (true, "91673403a8fa8ae3587ddbfcaeaea7b659e6b017a046f0d4cac447443f385bdd"), looks := false }, kinds := [], alts := [], laidByText := true, laidKinds := [.data, .data, .data], laidTests := true, laidLooks := .later }
def DuesSharesCardSaid : Prop := Claim7.holds Tryd.pinned (.plain (OpenSpec.ofChange duesSharesSpec)) duesSharesCard

/-- THE TIED CARD OF 'careenlaw10.DuesFairs'. -/
def duesFairsCard : Claim7 := { stood := { row := duesFairsRow, standIns := [], harness := (true, "91673403a8fa8ae3587ddbfcaeaea7b659e6b017a046f0d4cac447443f385bdd"), looks := false }, kinds := [], alts := [], laidByText := true, laidKinds := [.data, .data, .data], laidTests := true, laidLooks := .later }
def DuesFairsCardSaid : Prop := Claim7.holds Tryd.pinned (.plain (OpenSpec.ofChange duesFairsSpec)) duesFairsCard

/-- THE TIED CARD OF 'careenlaw10.DuesPowers'. -/
def duesPowersCard : Claim7 := { stood := { row := duesPowersRow, standIns := [], harness := (true, "91673403a8fa8ae3587ddbfcaeaea7b659e6b017a046f0d4cac447443f385bdd"), looks := false }, kinds := [], alts := [], laidByText := true, laidKinds := [.data, .data, .data], laidTests := true, laidLooks := .later }
def DuesPowersCardSaid : Prop := Claim7.holds Tryd.pinned (.plain (OpenSpec.ofChange duesPowersSpec)) duesPowersCard

/-- THE TIED CARD OF 'careenlaw10.DuesPivots'. -/
def duesPivotsCard : Claim7 := { stood := { row := duesPivotsRow, standIns := [], harness := (true, "91673403a8fa8ae3587ddbfcaeaea7b659e6b017a046f0d4cac447443f385bdd"), looks := false }, kinds := [], alts := [], laidByText := true, laidKinds := [.data, .data, .data], laidTests := true, laidLooks := .later }
def DuesPivotsCardSaid : Prop := Claim7.holds Tryd.pinned (.plain (OpenSpec.ofChange duesPivotsSpec)) duesPivotsCard

/-- THE TIED CARD OF 'careenlaw10.DuesAverages'. -/
def duesAveragesCard : Claim7 := { stood := { row := duesAveragesRow, standIns := [], harness := (true, "91673403a8fa8ae3587ddbfcaeaea7b659e6b017a046f0d4cac447443f385bdd"), looks := false }, kinds := [], alts := [], laidByText := true, laidKinds := [.data, .data, .data], laidTests := true, laidLooks := .later }
def DuesAveragesCardSaid : Prop := Claim7.holds Tryd.pinned (.plain (OpenSpec.ofChange duesAveragesSpec)) duesAveragesCard

/-- THE TIED CARD OF 'careenlaw10.DuesShapley'. -/
def duesShapleyCard : Claim7 := { stood := { row := duesShapleyRow, standIns := [], harness := (true, "91673403a8fa8ae3587ddbfcaeaea7b659e6b017a046f0d4cac447443f385bdd"), looks := false }, kinds := [], alts := [], laidByText := true, laidKinds := [.data, .data, .data], laidTests := true, laidLooks := .later }
def DuesShapleyCardSaid : Prop := Claim7.holds Tryd.pinned (.plain (OpenSpec.ofChange duesShapleySpec)) duesShapleyCard

/-- THE TIED CARD OF 'careenlaw10.DuesUnions'. -/
def duesUnionsCard : Claim7 := { stood := { row := duesUnionsRow, standIns := [], harness := (true, "91673403a8fa8ae3587ddbfcaeaea7b659e6b017a046f0d4cac447443f385bdd"), looks := false }, kinds := [], alts := [], laidByText := true, laidKinds := [.data, .data, .data], laidTests := true, laidLooks := .later }
def DuesUnionsCardSaid : Prop := Claim7.holds Tryd.pinned (.plain (OpenSpec.ofChange duesUnionsSpec)) duesUnionsCard

/-- THE TIED CARD OF 'careenlaw10.DuesCosts'. -/
def duesCostsCard : Claim7 := { stood := { row := duesCostsRow, standIns := [], harness := (true, "91673403a8fa8ae3587ddbfcaeaea7b659e6b017a046f0d4cac447443f385bdd"), looks := false }, kinds := [], alts := [], laidByText := true, laidKinds := [.data, .data, .data], laidTests := true, laidLooks := .later }
def DuesCostsCardSaid : Prop := Claim7.holds Tryd.pinned (.plain (OpenSpec.ofChange duesCostsSpec)) duesCostsCard

/-- THE TIED CARD OF 'careenlaw10.DuesOwn'. -/
def duesOwnCard : Claim7 := { stood := { row := duesOwnRow, standIns := [], harness := (true, "91673403a8fa8ae3587ddbfcaeaea7b659e6b017a046f0d4cac447443f385bdd"), looks := false }, kinds := [], alts := [], laidByText := true, laidKinds := [.data, .data, .data], laidTests := true, laidLooks := .later }
def DuesOwnCardSaid : Prop := Claim7.holds Tryd.pinned (.plain (OpenSpec.ofChange duesOwnSpec)) duesOwnCard

/-- THE TIED CARD OF 'careenlaw10.DuesEnds'. -/
def duesEndsCard : Claim7 := { stood := { row := duesEndsRow, standIns := [], harness := (true, "91673403a8fa8ae3587ddbfcaeaea7b659e6b017a046f0d4cac447443f385bdd"), looks := false }, kinds := [], alts := [], laidByText := true, laidKinds := [.data, .data, .data], laidTests := true, laidLooks := .later }
def DuesEndsCardSaid : Prop := Claim7.holds Tryd.pinned (.plain (OpenSpec.ofChange duesEndsSpec)) duesEndsCard

/-- THE TIED CARD OF 'careenlaw10.DuesMargins'. -/
def duesMarginsCard : Claim7 := { stood := { row := duesMarginsRow, standIns := [], harness := (true, "91673403a8fa8ae3587ddbfcaeaea7b659e6b017a046f0d4cac447443f385bdd"), looks := false }, kinds := [], alts := [], laidByText := true, laidKinds := [.data, .data, .data], laidTests := true, laidLooks := .later }
def DuesMarginsCardSaid : Prop := Claim7.holds Tryd.pinned (.plain (OpenSpec.ofChange duesMarginsSpec)) duesMarginsCard

/-- THE TIED CARD OF 'careenlaw10.DuesChecks'. -/
def duesChecksCard : Claim7 := { stood := { row := duesChecksRow, standIns := [], harness := (true, "91673403a8fa8ae3587ddbfcaeaea7b659e6b017a046f0d4cac447443f385bdd"), looks := false }, kinds := [], alts := [], laidByText := true, laidKinds := [.data, .data, .data], laidTests := true, laidLooks := .later }
def DuesChecksCardSaid : Prop := Claim7.holds Tryd.pinned (.plain (OpenSpec.ofChange duesChecksSpec)) duesChecksCard

/-- THE SECOND FORM's CARD OF 'careenlaw10.DuesShares'. -/
def duesSharesUptoCard : Claim7 := { stood := { row := duesSharesUptoRow, standIns := [], harness := (true, "91673403a8fa8ae3587ddbfcaeaea7b659e6b017a046f0d4cac447443f385bdd"), looks := false }, kinds := [], alts := [], laidByText := true, laidKinds := [.data, .data, .data], laidTests := true, laidLooks := .later }
def DuesSharesUptoCardSaid : Prop := Claim7.holds Tryd.pinned (.plain (OpenSpec.upto duesSharesSpec)) duesSharesUptoCard

/-- THE SECOND FORM's CARD OF 'careenlaw10.DuesFairs'. -/
def duesFairsUptoCard : Claim7 := { stood := { row := duesFairsUptoRow, standIns := [], harness := (true, "91673403a8fa8ae3587ddbfcaeaea7b659e6b017a046f0d4cac447443f385bdd"), looks := false }, kinds := [], alts := [], laidByText := true, laidKinds := [.data, .data, .data], laidTests := true, laidLooks := .later }
def DuesFairsUptoCardSaid : Prop := Claim7.holds Tryd.pinned (.plain (OpenSpec.upto duesFairsSpec)) duesFairsUptoCard

/-- THE SECOND FORM's CARD OF 'careenlaw10.DuesPowers'. -/
def duesPowersUptoCard : Claim7 := { stood := { row := duesPowersUptoRow, standIns := [], harness := (true, "91673403a8fa8ae3587ddbfcaeaea7b659e6b017a046f0d4cac447443f385bdd"), looks := false }, kinds := [], alts := [], laidByText := true, laidKinds := [.data, .data, .data], laidTests := true, laidLooks := .later }
def DuesPowersUptoCardSaid : Prop := Claim7.holds Tryd.pinned (.plain (OpenSpec.upto duesPowersSpec)) duesPowersUptoCard

/-- THE SECOND FORM's CARD OF 'careenlaw10.DuesPivots'. -/
def duesPivotsUptoCard : Claim7 := { stood := { row := duesPivotsUptoRow, standIns := [], harness := (true, "91673403a8fa8ae3587ddbfcaeaea7b659e6b017a046f0d4cac447443f385bdd"), looks := false }, kinds := [], alts := [], laidByText := true, laidKinds := [.data, .data, .data], laidTests := true, laidLooks := .later }
def DuesPivotsUptoCardSaid : Prop := Claim7.holds Tryd.pinned (.plain (OpenSpec.upto duesPivotsSpec)) duesPivotsUptoCard

/-- THE SECOND FORM's CARD OF 'careenlaw10.DuesAverages'. -/
def duesAveragesUptoCard : Claim7 := { stood := { row := duesAveragesUptoRow, standIns := [], harness := (true, "91673403a8fa8ae3587ddbfcaeaea7b659e6b017a046f0d4cac447443f385bdd"), looks := false }, kinds := [], alts := [], laidByText := true, laidKinds := [.data, .data, .data], laidTests := true, laidLooks := .later }
def DuesAveragesUptoCardSaid : Prop := Claim7.holds Tryd.pinned (.plain (OpenSpec.upto duesAveragesSpec)) duesAveragesUptoCard

/-- THE SECOND FORM's CARD OF 'careenlaw10.DuesShapley'. -/
def duesShapleyUptoCard : Claim7 := { stood := { row := duesShapleyUptoRow, standIns := [], harness := (true, "91673403a8fa8ae3587ddbfcaeaea7b659e6b017a046f0d4cac447443f385bdd"), looks := false }, kinds := [], alts := [], laidByText := true, laidKinds := [.data, .data, .data], laidTests := true, laidLooks := .later }
def DuesShapleyUptoCardSaid : Prop := Claim7.holds Tryd.pinned (.plain (OpenSpec.upto duesShapleySpec)) duesShapleyUptoCard

/-- THE SECOND FORM's CARD OF 'careenlaw10.DuesUnions'. -/
def duesUnionsUptoCard : Claim7 := { stood := { row := duesUnionsUptoRow, standIns := [], harness := (true, "91673403a8fa8ae3587ddbfcaeaea7b659e6b017a046f0d4cac447443f385bdd"), looks := false }, kinds := [], alts := [], laidByText := true, laidKinds := [.data, .data, .data], laidTests := true, laidLooks := .later }
def DuesUnionsUptoCardSaid : Prop := Claim7.holds Tryd.pinned (.plain (OpenSpec.upto duesUnionsSpec)) duesUnionsUptoCard

/-- THE SECOND FORM's CARD OF 'careenlaw10.DuesCosts'. -/
def duesCostsUptoCard : Claim7 := { stood := { row := duesCostsUptoRow, standIns := [], harness := (true, "91673403a8fa8ae3587ddbfcaeaea7b659e6b017a046f0d4cac447443f385bdd"), looks := false }, kinds := [], alts := [], laidByText := true, laidKinds := [.data, .data, .data], laidTests := true, laidLooks := .later }
def DuesCostsUptoCardSaid : Prop := Claim7.holds Tryd.pinned (.plain (OpenSpec.upto duesCostsSpec)) duesCostsUptoCard

/-- THE SECOND FORM's CARD OF 'careenlaw10.DuesOwn'. -/
def duesOwnUptoCard : Claim7 := { stood := { row := duesOwnUptoRow, standIns := [], harness := (true, "91673403a8fa8ae3587ddbfcaeaea7b659e6b017a046f0d4cac447443f385bdd"), looks := false }, kinds := [], alts := [], laidByText := true, laidKinds := [.data, .data, .data], laidTests := true, laidLooks := .later }
def DuesOwnUptoCardSaid : Prop := Claim7.holds Tryd.pinned (.plain (OpenSpec.upto duesOwnSpec)) duesOwnUptoCard

/-- THE SECOND FORM's CARD OF 'careenlaw10.DuesEnds'. -/
def duesEndsUptoCard : Claim7 := { stood := { row := duesEndsUptoRow, standIns := [], harness := (true, "91673403a8fa8ae3587ddbfcaeaea7b659e6b017a046f0d4cac447443f385bdd"), looks := false }, kinds := [], alts := [], laidByText := true, laidKinds := [.data, .data, .data], laidTests := true, laidLooks := .later }
def DuesEndsUptoCardSaid : Prop := Claim7.holds Tryd.pinned (.plain (OpenSpec.upto duesEndsSpec)) duesEndsUptoCard

/-- THE SECOND FORM's CARD OF 'careenlaw10.DuesMargins'. -/
def duesMarginsUptoCard : Claim7 := { stood := { row := duesMarginsUptoRow, standIns := [], harness := (true, "91673403a8fa8ae3587ddbfcaeaea7b659e6b017a046f0d4cac447443f385bdd"), looks := false }, kinds := [], alts := [], laidByText := true, laidKinds := [.data, .data, .data], laidTests := true, laidLooks := .later }
def DuesMarginsUptoCardSaid : Prop := Claim7.holds Tryd.pinned (.plain (OpenSpec.upto duesMarginsSpec)) duesMarginsUptoCard

/-- THE SECOND FORM's CARD OF 'careenlaw10.DuesChecks'. -/
def duesChecksUptoCard : Claim7 := { stood := { row := duesChecksUptoRow, standIns := [], harness := (true, "91673403a8fa8ae3587ddbfcaeaea7b659e6b017a046f0d4cac447443f385bdd"), looks := false }, kinds := [], alts := [], laidByText := true, laidKinds := [.data, .data, .data], laidTests := true, laidLooks := .later }
def DuesChecksUptoCardSaid : Prop := Claim7.holds Tryd.pinned (.plain (OpenSpec.upto duesChecksSpec)) duesChecksUptoCard
end Rows
end Go.Proofs.YtdjpaifhmiocnaaDoor
