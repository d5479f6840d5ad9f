/-
  DERIVED. GIVEN WITH THE SEED: THE CARDS: each row of YtgffeapobcfigaaGreatDoorRows.lean that lists a variable, with what it lists TIED to the program's text (the seventh form; the later family's looks); each row that meets fmt, with fmt's text TOLD by the authors' own Lean function (tested against real Go, not proved from fmt's source: count such statements apart). THE CARD IS WHAT COUNTS. Prove the row's statement (the work); the ties are given (YtgffeapobcfigaaGreatDoorTie.lean); close each card by the builder's one call (the guide's Derived/Test/ToyasCard.lean, 'card_holds'). Laid BY PROGRAM, IN A SANDBOX (cutbox-door.mjs). By AI agents, Wed Nov 11 2026. No macro, syntax, notation, axiom, sorry.
-/
import Derived.Test.YtgffeapobcfigaaGreatDoorRows
import GoSem.ClaimSeven
namespace Go.Proofs.YtgffeapobcfigaaGreatDoor
namespace Rows

/-- THE TIED CARD OF 'stricklelaw08.CaliperNeeds'. -/
def caliperNeedsCard : Claim7 := { stood := { row := caliperNeedsRow, standIns := [], harness := (true, "e2b2ccd4b48abe197f1c94db717cdf3c44fd31bda2bdfdce75304945194141d1"), looks := true }, kinds := [], alts := [], laidByText := true, laidKinds := [.data], laidTests := true, laidLooks := .later }
def CaliperNeedsCardSaid : Prop := Claim7.holds Tryz.pinned (.plain (OpenSpec.ofChange caliperNeedsSpec)) caliperNeedsCard

/-- THE TIED CARD OF 'stricklelaw08.CaliperChecks'. -/
def caliperChecksCard : Claim7 := { stood := { row := caliperChecksRow, standIns := [], harness := (true, "e2b2ccd4b48abe197f1c94db717cdf3c44fd31bda2bdfdce75304945194141d1"), looks := true }, kinds := [], alts := [], laidByText := true, laidKinds := [.data], laidTests := true, laidLooks := .later }
def CaliperChecksCardSaid : Prop := Claim7.holds Tryz.pinned (.plain (OpenSpec.ofChange caliperChecksSpec)) caliperChecksCard

/-- THE TIED CARD OF 'stricklelaw08.CaliperTruths'. -/
def caliperTruthsCard : Claim7 := { stood := { row := caliperTruthsRow, standIns := [], harness := (true, "e2b2ccd4b48abe197f1c94db717cdf3c44fd31bda2bdfdce75304945194141d1"), looks := true }, kinds := [], alts := [], laidByText := true, laidKinds := [.data], laidTests := true, laidLooks := .later }
def CaliperTruthsCardSaid : Prop := Claim7.holds Tryz.pinned (.plain (OpenSpec.ofChange caliperTruthsSpec)) caliperTruthsCard

/-- THE TIED CARD OF 'stricklelaw08.CaliperDoubts'. -/
def caliperDoubtsCard : Claim7 := { stood := { row := caliperDoubtsRow, standIns := [], harness := (true, "e2b2ccd4b48abe197f1c94db717cdf3c44fd31bda2bdfdce75304945194141d1"), looks := true }, kinds := [], alts := [], laidByText := true, laidKinds := [.data], laidTests := true, laidLooks := .later }
def CaliperDoubtsCardSaid : Prop := Claim7.holds Tryz.pinned (.plain (OpenSpec.ofChange caliperDoubtsSpec)) caliperDoubtsCard

/-- THE TIED CARD OF 'stricklelaw08.CaliperMore'. -/
def caliperMoreCard : Claim7 := { stood := { row := caliperMoreRow, standIns := [], harness := (true, "e2b2ccd4b48abe197f1c94db717cdf3c44fd31bda2bdfdce75304945194141d1"), looks := true }, kinds := [], alts := [], laidByText := true, laidKinds := [.data], laidTests := true, laidLooks := .later }
def CaliperMoreCardSaid : Prop := Claim7.holds Tryz.pinned (.plain (OpenSpec.ofChange caliperMoreSpec)) caliperMoreCard

/-- THE TIED CARD OF 'stricklelaw08.CaliperSheets'. -/
def caliperSheetsCard : Claim7 := { stood := { row := caliperSheetsRow, standIns := [], harness := (true, "e2b2ccd4b48abe197f1c94db717cdf3c44fd31bda2bdfdce75304945194141d1"), looks := true }, kinds := [], alts := [], laidByText := true, laidKinds := [.data], laidTests := true, laidLooks := .later }
def CaliperSheetsCardSaid : Prop := Claim7.holds Tryz.pinned (.plain (OpenSpec.ofChange caliperSheetsSpec)) caliperSheetsCard

/-- THE TIED CARD OF 'stricklelaw08.CaliperLater'. -/
def caliperLaterCard : Claim7 := { stood := { row := caliperLaterRow, standIns := [], harness := (true, "e2b2ccd4b48abe197f1c94db717cdf3c44fd31bda2bdfdce75304945194141d1"), looks := true }, kinds := [], alts := [], laidByText := true, laidKinds := [.data], laidTests := true, laidLooks := .later }
def CaliperLaterCardSaid : Prop := Claim7.holds Tryz.pinned (.plain (OpenSpec.ofChange caliperLaterSpec)) caliperLaterCard

/-- THE TIED CARD OF 'stricklelaw08.CaliperServes'. -/
def caliperServesCard : Claim7 := { stood := { row := caliperServesRow, standIns := [], harness := (true, "e2b2ccd4b48abe197f1c94db717cdf3c44fd31bda2bdfdce75304945194141d1"), looks := true }, kinds := [], alts := [], laidByText := true, laidKinds := [.data], laidTests := true, laidLooks := .later }
def CaliperServesCardSaid : Prop := Claim7.holds Tryz.pinned (.plain (OpenSpec.ofChange caliperServesSpec)) caliperServesCard

/-- THE TIED CARD OF 'stricklelaw08.CaliperAnswers'. -/
def caliperAnswersCard : Claim7 := { stood := { row := caliperAnswersRow, standIns := [], harness := (true, "e2b2ccd4b48abe197f1c94db717cdf3c44fd31bda2bdfdce75304945194141d1"), looks := true }, kinds := [], alts := [], laidByText := true, laidKinds := [.data], laidTests := true, laidLooks := .later }
def CaliperAnswersCardSaid : Prop := Claim7.holds Tryz.pinned (.plain (OpenSpec.ofChange caliperAnswersSpec)) caliperAnswersCard

/-- THE TIED CARD OF 'stricklelaw08.CaliperCost'. -/
def caliperCostCard : Claim7 := { stood := { row := caliperCostRow, standIns := [], harness := (true, "e2b2ccd4b48abe197f1c94db717cdf3c44fd31bda2bdfdce75304945194141d1"), looks := true }, kinds := [], alts := [], laidByText := true, laidKinds := [.data], laidTests := true, laidLooks := .later }
def CaliperCostCardSaid : Prop := Claim7.holds Tryz.pinned (.plain (OpenSpec.ofChange caliperCostSpec)) caliperCostCard

/-- THE TIED CARD OF 'stricklelaw08.CaliperValue'. -/
def caliperValueCard : Claim7 := { stood := { row := caliperValueRow, standIns := [], harness := (true, "e2b2ccd4b48abe197f1c94db717cdf3c44fd31bda2bdfdce75304945194141d1"), looks := true }, kinds := [], alts := [], laidByText := true, laidKinds := [.data], laidTests := true, laidLooks := .later }
def CaliperValueCardSaid : Prop := Claim7.holds Tryz.pinned (.plain (OpenSpec.ofChange caliperValueSpec)) caliperValueCard

/-- THE TIED CARD OF 'stricklelaw08.CaliperFindings'. -/
def caliperFindingsCard : Claim7 := { stood := { row := caliperFindingsRow, standIns := [], harness := (true, "e2b2ccd4b48abe197f1c94db717cdf3c44fd31bda2bdfdce75304945194141d1"), looks := true }, kinds := [], alts := [], laidByText := true, laidKinds := [.data], laidTests := true, laidLooks := .later }
def CaliperFindingsCardSaid : Prop := Claim7.holds Tryz.pinned (.plain (OpenSpec.ofChange caliperFindingsSpec)) caliperFindingsCard

/-- THE TIED CARD OF 'stricklelaw08.CaliperNumbers'. -/
def caliperNumbersCard : Claim7 := { stood := { row := caliperNumbersRow, standIns := [], harness := (true, "e2b2ccd4b48abe197f1c94db717cdf3c44fd31bda2bdfdce75304945194141d1"), looks := true }, kinds := [], alts := [], laidByText := true, laidKinds := [.data], laidTests := true, laidLooks := .later }
def CaliperNumbersCardSaid : Prop := Claim7.holds Tryz.pinned (.plain (OpenSpec.ofChange caliperNumbersSpec)) caliperNumbersCard

/-- THE TIED CARD OF 'stricklelaw08.CaliperSeasons'. -/
def caliperSeasonsCard : Claim7 := { stood := { row := caliperSeasonsRow, standIns := [], harness := (true, "e2b2ccd4b48abe197f1c94db717cdf3c44fd31bda2bdfdce75304945194141d1"), looks := true }, kinds := [], alts := [], laidByText := true, laidKinds := [.data], laidTests := true, laidLooks := .later }
def CaliperSeasonsCardSaid : Prop := Claim7.holds Tryz.pinned (.plain (OpenSpec.ofChange caliperSeasonsSpec)) caliperSeasonsCard

/-- THE TIED CARD OF 'strickletop.TopProbed'. -/
def topProbedCard : Claim7 := { stood := { row := topProbedRow, standIns := [], harness := (true, "e2b2ccd4b48abe197f1c94db717cdf3c44fd31bda2bdfdce75304945194141d1"), looks := true }, kinds := [], alts := [], laidByText := true, laidKinds := [.data], laidTests := true, laidLooks := .later }
def TopProbedCardSaid : Prop := Claim7.holds Tryz.pinned (.plain (OpenSpec.ofChange topProbedSpec)) topProbedCard

/-- THE TIED CARD OF 'stricklelaw08.CaliperKnown'. -/
def caliperKnownCard : Claim7 := { stood := { row := caliperKnownRow, standIns := [], harness := (true, "e2b2ccd4b48abe197f1c94db717cdf3c44fd31bda2bdfdce75304945194141d1"), looks := true }, kinds := [], alts := [], laidByText := true, laidKinds := [.data], laidTests := true, laidLooks := .later }
def CaliperKnownCardSaid : Prop := Claim7.holds Tryz.pinned (.plain (OpenSpec.ofChange caliperKnownSpec)) caliperKnownCard

/-- THE TIED CARD OF 'stricklelaw08.CaliperLines'. -/
def caliperLinesCard : Claim7 := { stood := { row := caliperLinesRow, standIns := [], harness := (true, "e2b2ccd4b48abe197f1c94db717cdf3c44fd31bda2bdfdce75304945194141d1"), looks := true }, kinds := [], alts := [], laidByText := true, laidKinds := [.data, .data, .data, .data, .sentinel, .sentinel, .listed, .data, .pinned], laidTests := true, laidLooks := .later }
def CaliperLinesCardSaid : Prop := Claim7.holds Tryz.pinned (.plain (OpenSpec.ofChange caliperLinesSpec)) caliperLinesCard

/-- THE SECOND FORM's CARD OF 'stricklelaw08.CaliperNeeds'. -/
def caliperNeedsUptoCard : Claim7 := { stood := { row := caliperNeedsUptoRow, standIns := [], harness := (true, "e2b2ccd4b48abe197f1c94db717cdf3c44fd31bda2bdfdce75304945194141d1"), looks := true }, kinds := [], alts := [], laidByText := true, laidKinds := [.data], laidTests := true, laidLooks := .later }
def CaliperNeedsUptoCardSaid : Prop := Claim7.holds Tryz.pinned (.plain (OpenSpec.upto caliperNeedsSpec)) caliperNeedsUptoCard

/-- THE SECOND FORM's CARD OF 'stricklelaw08.CaliperChecks'. -/
def caliperChecksUptoCard : Claim7 := { stood := { row := caliperChecksUptoRow, standIns := [], harness := (true, "e2b2ccd4b48abe197f1c94db717cdf3c44fd31bda2bdfdce75304945194141d1"), looks := true }, kinds := [], alts := [], laidByText := true, laidKinds := [.data], laidTests := true, laidLooks := .later }
def CaliperChecksUptoCardSaid : Prop := Claim7.holds Tryz.pinned (.plain (OpenSpec.upto caliperChecksSpec)) caliperChecksUptoCard

/-- THE SECOND FORM's CARD OF 'stricklelaw08.CaliperTruths'. -/
def caliperTruthsUptoCard : Claim7 := { stood := { row := caliperTruthsUptoRow, standIns := [], harness := (true, "e2b2ccd4b48abe197f1c94db717cdf3c44fd31bda2bdfdce75304945194141d1"), looks := true }, kinds := [], alts := [], laidByText := true, laidKinds := [.data], laidTests := true, laidLooks := .later }
def CaliperTruthsUptoCardSaid : Prop := Claim7.holds Tryz.pinned (.plain (OpenSpec.upto caliperTruthsSpec)) caliperTruthsUptoCard

/-- THE SECOND FORM's CARD OF 'stricklelaw08.CaliperDoubts'. -/
def caliperDoubtsUptoCard : Claim7 := { stood := { row := caliperDoubtsUptoRow, standIns := [], harness := (true, "e2b2ccd4b48abe197f1c94db717cdf3c44fd31bda2bdfdce75304945194141d1"), looks := true }, kinds := [], alts := [], laidByText := true, laidKinds := [.data], laidTests := true, laidLooks := .later }
def CaliperDoubtsUptoCardSaid : Prop := Claim7.holds Tryz.pinned (.plain (OpenSpec.upto caliperDoubtsSpec)) caliperDoubtsUptoCard

/-- THE SECOND FORM's CARD OF 'stricklelaw08.CaliperMore'. -/
def caliperMoreUptoCard : Claim7 := { stood := { row := caliperMoreUptoRow, standIns := [], harness := (true, "e2b2ccd4b48abe197f1c94db717cdf3c44fd31bda2bdfdce75304945194141d1"), looks := true }, kinds := [], alts := [], laidByText := true, laidKinds := [.data], laidTests := true, laidLooks := .later }
def CaliperMoreUptoCardSaid : Prop := Claim7.holds Tryz.pinned (.plain (OpenSpec.upto caliperMoreSpec)) caliperMoreUptoCard

/-- THE SECOND FORM's CARD OF 'stricklelaw08.CaliperSheets'. -/
def caliperSheetsUptoCard : Claim7 := { stood := { row := caliperSheetsUptoRow, standIns := [], harness := (true, "e2b2ccd4b48abe197f1c94db717cdf3c44fd31bda2bdfdce75304945194141d1"), looks := true }, kinds := [], alts := [], laidByText := true, laidKinds := [.data], laidTests := true, laidLooks := .later }
def CaliperSheetsUptoCardSaid : Prop := Claim7.holds Tryz.pinned (.plain (OpenSpec.upto caliperSheetsSpec)) caliperSheetsUptoCard

/-- THE SECOND FORM's CARD OF 'stricklelaw08.CaliperLater'. -/
def caliperLaterUptoCard : Claim7 := { stood := { row := caliperLaterUptoRow, standIns := [], harness := (true, "e2b2ccd4b48abe197f1c94db717cdf3c44fd31bda2bdfdce75304945194141d1"), looks := true }, kinds := [], alts := [], laidByText := true, laidKinds := [.data], laidTests := true, laidLooks := .later }
def CaliperLaterUptoCardSaid : Prop := Claim7.holds Tryz.pinned (.plain (OpenSpec.upto caliperLaterSpec)) caliperLaterUptoCard

/-- THE SECOND FORM's CARD OF 'stricklelaw08.CaliperServes'. -/
def caliperServesUptoCard : Claim7 := { stood := { row := caliperServesUptoRow, standIns := [], harness := (true, "e2b2ccd4b48abe197f1c94db717cdf3c44fd31bda2bdfdce75304945194141d1"), looks := true }, kinds := [], alts := [], laidByText := true, laidKinds := [.data], laidTests := true, laidLooks := .later }
def CaliperServesUptoCardSaid : Prop := Claim7.holds Tryz.pinned (.plain (OpenSpec.upto caliperServesSpec)) caliperServesUptoCard

/-- THE SECOND FORM's CARD OF 'stricklelaw08.CaliperAnswers'. -/
def caliperAnswersUptoCard : Claim7 := { stood := { row := caliperAnswersUptoRow, standIns := [], harness := (true, "e2b2ccd4b48abe197f1c94db717cdf3c44fd31bda2bdfdce75304945194141d1"), looks := true }, kinds := [], alts := [], laidByText := true, laidKinds := [.data], laidTests := true, laidLooks := .later }
def CaliperAnswersUptoCardSaid : Prop := Claim7.holds Tryz.pinned (.plain (OpenSpec.upto caliperAnswersSpec)) caliperAnswersUptoCard

/-- THE SECOND FORM's CARD OF 'stricklelaw08.CaliperCost'. -/
def caliperCostUptoCard : Claim7 := { stood := { row := caliperCostUptoRow, standIns := [], harness := (true, "e2b2ccd4b48abe197f1c94db717cdf3c44fd31bda2bdfdce75304945194141d1"), looks := true }, kinds := [], alts := [], laidByText := true, laidKinds := [.data], laidTests := true, laidLooks := .later }
def CaliperCostUptoCardSaid : Prop := Claim7.holds Tryz.pinned (.plain (OpenSpec.upto caliperCostSpec)) caliperCostUptoCard

/-- THE SECOND FORM's CARD OF 'stricklelaw08.CaliperValue'. -/
def caliperValueUptoCard : Claim7 := { stood := { row := caliperValueUptoRow, standIns := [], harness := (true, "e2b2ccd4b48abe197f1c94db717cdf3c44fd31bda2bdfdce75304945194141d1"), looks := true }, kinds := [], alts := [], laidByText := true, laidKinds := [.data], laidTests := true, laidLooks := .later }
def CaliperValueUptoCardSaid : Prop := Claim7.holds Tryz.pinned (.plain (OpenSpec.upto caliperValueSpec)) caliperValueUptoCard

/-- THE SECOND FORM's CARD OF 'stricklelaw08.CaliperFindings'. -/
def caliperFindingsUptoCard : Claim7 := { stood := { row := caliperFindingsUptoRow, standIns := [], harness := (true, "e2b2ccd4b48abe197f1c94db717cdf3c44fd31bda2bdfdce75304945194141d1"), looks := true }, kinds := [], alts := [], laidByText := true, laidKinds := [.data], laidTests := true, laidLooks := .later }
def CaliperFindingsUptoCardSaid : Prop := Claim7.holds Tryz.pinned (.plain (OpenSpec.upto caliperFindingsSpec)) caliperFindingsUptoCard

/-- THE SECOND FORM's CARD OF 'stricklelaw08.CaliperNumbers'. -/
def caliperNumbersUptoCard : Claim7 := { stood := { row := caliperNumbersUptoRow, standIns := [], harness := (true, "e2b2ccd4b48abe197f1c94db717cdf3c44fd31bda2bdfdce75304945194141d1"), looks := true }, kinds := [], alts := [], laidByText := true, laidKinds := [.data], laidTests := true, laidLooks := .later }
def CaliperNumbersUptoCardSaid : Prop := Claim7.holds Tryz.pinned (.plain (OpenSpec.upto caliperNumbersSpec)) caliperNumbersUptoCard

/-- THE SECOND FORM's CARD OF 'stricklelaw08.CaliperSeasons'. -/
def caliperSeasonsUptoCard : Claim7 := { stood := { row := caliperSeasonsUptoRow, standIns := [], harness := (true, "e2b2ccd4b48abe197f1c94db717cdf3c44fd31bda2bdfdce75304945194141d1"), looks := true }, kinds := [], alts := [], laidByText := true, laidKinds := [.data], laidTests := true, laidLooks := .later }
def CaliperSeasonsUptoCardSaid : Prop := Claim7.holds Tryz.pinned (.plain (OpenSpec.upto caliperSeasonsSpec)) caliperSeasonsUptoCard

/-- THE SECOND FORM's CARD OF 'strickletop.TopProbed'. -/
def topProbedUptoCard : Claim7 := { stood := { row := topProbedUptoRow, standIns := [], harness := (true, "e2b2ccd4b48abe197f1c94db717cdf3c44fd31bda2bdfdce75304945194141d1"), looks := true }, kinds := [], alts := [], laidByText := true, laidKinds := [.data], laidTests := true, laidLooks := .later }
def TopProbedUptoCardSaid : Prop := Claim7.holds Tryz.pinned (.plain (OpenSpec.upto topProbedSpec)) topProbedUptoCard

/-- THE SECOND FORM's CARD OF 'stricklelaw08.CaliperKnown'. -/
def caliperKnownUptoCard : Claim7 := { stood := { row := caliperKnownUptoRow, standIns := [], harness := (true, "e2b2ccd4b48abe197f1c94db717cdf3c44fd31bda2bdfdce75304945194141d1"), looks := true }, kinds := [], alts := [], laidByText := true, laidKinds := [.data], laidTests := true, laidLooks := .later }
def CaliperKnownUptoCardSaid : Prop := Claim7.holds Tryz.pinned (.plain (OpenSpec.upto caliperKnownSpec)) caliperKnownUptoCard

/-- THE SECOND FORM's CARD OF 'stricklelaw08.CaliperLines'. -/
def caliperLinesUptoCard : Claim7 := { stood := { row := caliperLinesUptoRow, standIns := [], harness := (true, "e2b2ccd4b48abe197f1c94db717cdf3c44fd31bda2bdfdce75304945194141d1"), looks := true }, kinds := [], alts := [], laidByText := true, laidKinds := [.data, .data, .data, .data, .sentinel, .sentinel, .listed, .data, .pinned], laidTests := true, laidLooks := .later }
def CaliperLinesUptoCardSaid : Prop := Claim7.holds Tryz.pinned (.plain (OpenSpec.upto caliperLinesSpec)) caliperLinesUptoCard
end Rows
end Go.Proofs.YtgffeapobcfigaaGreatDoor
