/-
  DERIVED. GIVEN WITH THE SEED: THE CARDS: each row of YteafdpbjocdbbaaGreatDoorRows.lean that lists a variable, with what it lists TIED to the program's text (the seventh form; the later family's looks); each row that meets fmt, with fmt's text TOLD by the authors' own Lean function (tested against real Go, not proved from fmt's source: count such statements apart). THE CARD IS WHAT COUNTS. Prove the row's statement (the work); the ties are given (YteafdpbjocdbbaaGreatDoorTie.lean); close each card by the builder's one call (the guide's Derived/Test/ToyasCard.lean, 'card_holds'). Laid BY PROGRAM, IN A SANDBOX (cutbox-door.mjs). By AI agents, Wed Nov 11 2026. No macro, syntax, notation, axiom, sorry.
-/
import Derived.Test.YteafdpbjocdbbaaGreatDoorRows
import GoSem.ClaimSeven
namespace Go.Proofs.YteafdpbjocdbbaaGreatDoor
namespace Rows

/-- THE TIED CARD OF 'stricklelaw05.PlankFill'. -/
def plankFillCard : Claim7 := { stood := { row := plankFillRow, standIns := [], harness := (true, "4038d376e2922457308e423d31cfb90a55f11c07cef76432d7b92be04083b422"), looks := true }, kinds := [], alts := [], laidByText := true, laidKinds := [.data, .data, .data, .data, .sentinel, .sentinel, .pinned], laidTests := true, laidLooks := .later }
def PlankFillCardSaid : Prop := Claim7.holds Tryz.pinned (.plain (OpenSpec.ofChange plankFillSpec)) plankFillCard

/-- THE TIED CARD OF 'stricklelaw05.PlankTexts'. -/
def plankTextsCard : Claim7 := { stood := { row := plankTextsRow, standIns := [], harness := (true, "4038d376e2922457308e423d31cfb90a55f11c07cef76432d7b92be04083b422"), looks := true }, kinds := [], alts := [], laidByText := true, laidKinds := [.data, .data, .data, .data, .sentinel, .sentinel, .pinned], laidTests := true, laidLooks := .later }
def PlankTextsCardSaid : Prop := Claim7.holds Tryz.pinned (.plain (OpenSpec.ofChange plankTextsSpec)) plankTextsCard

/-- THE TIED CARD OF 'stricklelaw05.PlankBest'. -/
def plankBestCard : Claim7 := { stood := { row := plankBestRow, standIns := [], harness := (true, "4038d376e2922457308e423d31cfb90a55f11c07cef76432d7b92be04083b422"), looks := true }, kinds := [], alts := [], laidByText := true, laidKinds := [.data, .data, .data, .data, .sentinel, .sentinel, .pinned], laidTests := true, laidLooks := .later }
def PlankBestCardSaid : Prop := Claim7.holds Tryz.pinned (.plain (OpenSpec.ofChange plankBestSpec)) plankBestCard

/-- THE TIED CARD OF 'stricklelaw05.PlankShape'. -/
def plankShapeCard : Claim7 := { stood := { row := plankShapeRow, standIns := [], harness := (true, "4038d376e2922457308e423d31cfb90a55f11c07cef76432d7b92be04083b422"), looks := true }, kinds := [], alts := [], laidByText := true, laidKinds := [.data, .data, .data, .data, .sentinel, .sentinel, .pinned], laidTests := true, laidLooks := .later }
def PlankShapeCardSaid : Prop := Claim7.holds Tryz.pinned (.plain (OpenSpec.ofChange plankShapeSpec)) plankShapeCard

/-- THE TIED CARD OF 'stricklelaw05.PlankKinds'. -/
def plankKindsCard : Claim7 := { stood := { row := plankKindsRow, standIns := [], harness := (true, "4038d376e2922457308e423d31cfb90a55f11c07cef76432d7b92be04083b422"), looks := true }, kinds := [], alts := [], laidByText := true, laidKinds := [.data, .data, .data, .data, .sentinel, .sentinel, .pinned], laidTests := true, laidLooks := .later }
def PlankKindsCardSaid : Prop := Claim7.holds Tryz.pinned (.plain (OpenSpec.ofChange plankKindsSpec)) plankKindsCard

/-- THE TIED CARD OF 'stricklelaw05.PlankDepth'. -/
def plankDepthCard : Claim7 := { stood := { row := plankDepthRow, standIns := [], harness := (true, "4038d376e2922457308e423d31cfb90a55f11c07cef76432d7b92be04083b422"), looks := true }, kinds := [], alts := [], laidByText := true, laidKinds := [.data, .data, .data, .data, .sentinel, .sentinel, .pinned], laidTests := true, laidLooks := .later }
def PlankDepthCardSaid : Prop := Claim7.holds Tryz.pinned (.plain (OpenSpec.ofChange plankDepthSpec)) plankDepthCard

/-- THE TIED CARD OF 'stricklelaw05.PlankWaste'. -/
def plankWasteCard : Claim7 := { stood := { row := plankWasteRow, standIns := [], harness := (true, "4038d376e2922457308e423d31cfb90a55f11c07cef76432d7b92be04083b422"), looks := true }, kinds := [], alts := [], laidByText := true, laidKinds := [.data, .data, .data, .data, .sentinel, .sentinel, .pinned], laidTests := true, laidLooks := .later }
def PlankWasteCardSaid : Prop := Claim7.holds Tryz.pinned (.plain (OpenSpec.ofChange plankWasteSpec)) plankWasteCard

/-- THE TIED CARD OF 'stricklelaw05.PlankPlans'. -/
def plankPlansCard : Claim7 := { stood := { row := plankPlansRow, standIns := [], harness := (true, "4038d376e2922457308e423d31cfb90a55f11c07cef76432d7b92be04083b422"), looks := true }, kinds := [], alts := [], laidByText := true, laidKinds := [.data, .data, .data, .data, .sentinel, .sentinel, .pinned], laidTests := true, laidLooks := .later }
def PlankPlansCardSaid : Prop := Claim7.holds Tryz.pinned (.plain (OpenSpec.ofChange plankPlansSpec)) plankPlansCard

/-- THE TIED CARD OF 'stricklelaw05.PlankValues'. -/
def plankValuesCard : Claim7 := { stood := { row := plankValuesRow, standIns := [], harness := (true, "4038d376e2922457308e423d31cfb90a55f11c07cef76432d7b92be04083b422"), looks := true }, kinds := [], alts := [], laidByText := true, laidKinds := [.data, .data, .data, .data, .sentinel, .sentinel, .pinned], laidTests := true, laidLooks := .later }
def PlankValuesCardSaid : Prop := Claim7.holds Tryz.pinned (.plain (OpenSpec.ofChange plankValuesSpec)) plankValuesCard

/-- THE TIED CARD OF 'stricklelaw05.PlankDearer'. -/
def plankDearerCard : Claim7 := { stood := { row := plankDearerRow, standIns := [], harness := (true, "4038d376e2922457308e423d31cfb90a55f11c07cef76432d7b92be04083b422"), looks := true }, kinds := [], alts := [], laidByText := true, laidKinds := [.data, .data, .data, .data, .sentinel, .sentinel, .pinned], laidTests := true, laidLooks := .later }
def PlankDearerCardSaid : Prop := Claim7.holds Tryz.pinned (.plain (OpenSpec.ofChange plankDearerSpec)) plankDearerCard

/-- THE TIED CARD OF 'stricklelaw05.PlankDual'. -/
def plankDualCard : Claim7 := { stood := { row := plankDualRow, standIns := [], harness := (true, "4038d376e2922457308e423d31cfb90a55f11c07cef76432d7b92be04083b422"), looks := true }, kinds := [], alts := [], laidByText := true, laidKinds := [.data, .data, .data, .data, .sentinel, .sentinel, .pinned], laidTests := true, laidLooks := .later }
def PlankDualCardSaid : Prop := Claim7.holds Tryz.pinned (.plain (OpenSpec.ofChange plankDualSpec)) plankDualCard

/-- THE TIED CARD OF 'stricklelaw05.PlankMore'. -/
def plankMoreCard : Claim7 := { stood := { row := plankMoreRow, standIns := [], harness := (true, "4038d376e2922457308e423d31cfb90a55f11c07cef76432d7b92be04083b422"), looks := true }, kinds := [], alts := [], laidByText := true, laidKinds := [.data, .data, .data, .data, .sentinel, .sentinel, .pinned], laidTests := true, laidLooks := .later }
def PlankMoreCardSaid : Prop := Claim7.holds Tryz.pinned (.plain (OpenSpec.ofChange plankMoreSpec)) plankMoreCard

/-- THE TIED CARD OF 'stricklelaw05.PlankSaws'. -/
def plankSawsCard : Claim7 := { stood := { row := plankSawsRow, standIns := [], harness := (true, "4038d376e2922457308e423d31cfb90a55f11c07cef76432d7b92be04083b422"), looks := true }, kinds := [], alts := [], laidByText := true, laidKinds := [.data, .data, .data, .data, .sentinel, .sentinel, .pinned], laidTests := true, laidLooks := .later }
def PlankSawsCardSaid : Prop := Claim7.holds Tryz.pinned (.plain (OpenSpec.ofChange plankSawsSpec)) plankSawsCard

/-- THE TIED CARD OF 'stricklelaw05.PlankWood'. -/
def plankWoodCard : Claim7 := { stood := { row := plankWoodRow, standIns := [], harness := (true, "4038d376e2922457308e423d31cfb90a55f11c07cef76432d7b92be04083b422"), looks := true }, kinds := [], alts := [], laidByText := true, laidKinds := [.data, .data, .data, .data, .sentinel, .sentinel, .pinned], laidTests := true, laidLooks := .later }
def PlankWoodCardSaid : Prop := Claim7.holds Tryz.pinned (.plain (OpenSpec.ofChange plankWoodSpec)) plankWoodCard

/-- THE TIED CARD OF 'stricklelaw05.PlankKerf'. -/
def plankKerfCard : Claim7 := { stood := { row := plankKerfRow, standIns := [], harness := (true, "4038d376e2922457308e423d31cfb90a55f11c07cef76432d7b92be04083b422"), looks := true }, kinds := [], alts := [], laidByText := true, laidKinds := [.data, .data, .data, .data, .sentinel, .sentinel, .pinned], laidTests := true, laidLooks := .later }
def PlankKerfCardSaid : Prop := Claim7.holds Tryz.pinned (.plain (OpenSpec.ofChange plankKerfSpec)) plankKerfCard

/-- THE SECOND FORM's CARD OF 'stricklelaw05.PlankFill'. -/
def plankFillUptoCard : Claim7 := { stood := { row := plankFillUptoRow, standIns := [], harness := (true, "4038d376e2922457308e423d31cfb90a55f11c07cef76432d7b92be04083b422"), looks := true }, kinds := [], alts := [], laidByText := true, laidKinds := [.data, .data, .data, .data, .sentinel, .sentinel, .pinned], laidTests := true, laidLooks := .later }
def PlankFillUptoCardSaid : Prop := Claim7.holds Tryz.pinned (.plain (OpenSpec.upto plankFillSpec)) plankFillUptoCard

/-- THE SECOND FORM's CARD OF 'stricklelaw05.PlankTexts'. -/
def plankTextsUptoCard : Claim7 := { stood := { row := plankTextsUptoRow, standIns := [], harness := (true, "4038d376e2922457308e423d31cfb90a55f11c07cef76432d7b92be04083b422"), looks := true }, kinds := [], alts := [], laidByText := true, laidKinds := [.data, .data, .data, .data, .sentinel, .sentinel, .pinned], laidTests := true, laidLooks := .later }
def PlankTextsUptoCardSaid : Prop := Claim7.holds Tryz.pinned (.plain (OpenSpec.upto plankTextsSpec)) plankTextsUptoCard

/-- THE SECOND FORM's CARD OF 'stricklelaw05.PlankBest'. -/
def plankBestUptoCard : Claim7 := { stood := { row := plankBestUptoRow, standIns := [], harness := (true, "4038d376e2922457308e423d31cfb90a55f11c07cef76432d7b92be04083b422"), looks := true }, kinds := [], alts := [], laidByText := true, laidKinds := [.data, .data, .data, .data, .sentinel, .sentinel, .pinned], laidTests := true, laidLooks := .later }
def PlankBestUptoCardSaid : Prop := Claim7.holds Tryz.pinned (.plain (OpenSpec.upto plankBestSpec)) plankBestUptoCard

/-- THE SECOND FORM's CARD OF 'stricklelaw05.PlankShape'. -/
def plankShapeUptoCard : Claim7 := { stood := { row := plankShapeUptoRow, standIns := [], harness := (true, "4038d376e2922457308e423d31cfb90a55f11c07cef76432d7b92be04083b422"), looks := true }, kinds := [], alts := [], laidByText := true, laidKinds := [.data, .data, .data, .data, .sentinel, .sentinel, .pinned], laidTests := true, laidLooks := .later }
def PlankShapeUptoCardSaid : Prop := Claim7.holds Tryz.pinned (.plain (OpenSpec.upto plankShapeSpec)) plankShapeUptoCard

/-- THE SECOND FORM's CARD OF 'stricklelaw05.PlankKinds'. -/
def plankKindsUptoCard : Claim7 := { stood := { row := plankKindsUptoRow, standIns := [], harness := (true, "4038d376e2922457308e423d31cfb90a55f11c07cef76432d7b92be04083b422"), looks := true }, kinds := [], alts := [], laidByText := true, laidKinds := [.data, .data, .data, .data, .sentinel, .sentinel, .pinned], laidTests := true, laidLooks := .later }
def PlankKindsUptoCardSaid : Prop := Claim7.holds Tryz.pinned (.plain (OpenSpec.upto plankKindsSpec)) plankKindsUptoCard

/-- THE SECOND FORM's CARD OF 'stricklelaw05.PlankDepth'. -/
def plankDepthUptoCard : Claim7 := { stood := { row := plankDepthUptoRow, standIns := [], harness := (true, "4038d376e2922457308e423d31cfb90a55f11c07cef76432d7b92be04083b422"), looks := true }, kinds := [], alts := [], laidByText := true, laidKinds := [.data, .data, .data, .data, .sentinel, .sentinel, .pinned], laidTests := true, laidLooks := .later }
def PlankDepthUptoCardSaid : Prop := Claim7.holds Tryz.pinned (.plain (OpenSpec.upto plankDepthSpec)) plankDepthUptoCard

/-- THE SECOND FORM's CARD OF 'stricklelaw05.PlankWaste'. -/
def plankWasteUptoCard : Claim7 := { stood := { row := plankWasteUptoRow, standIns := [], harness := (true, "4038d376e2922457308e423d31cfb90a55f11c07cef76432d7b92be04083b422"), looks := true }, kinds := [], alts := [], laidByText := true, laidKinds := [.data, .data, .data, .data, .sentinel, .sentinel, .pinned], laidTests := true, laidLooks := .later }
def PlankWasteUptoCardSaid : Prop := Claim7.holds Tryz.pinned (.plain (OpenSpec.upto plankWasteSpec)) plankWasteUptoCard

/-- THE SECOND FORM's CARD OF 'stricklelaw05.PlankPlans'. -/
def plankPlansUptoCard : Claim7 := { stood := { row := plankPlansUptoRow, standIns := [], harness := (true, "4038d376e2922457308e423d31cfb90a55f11c07cef76432d7b92be04083b422"), looks := true }, kinds := [], alts := [], laidByText := true, laidKinds := [.data, .data, .data, .data, .sentinel, .sentinel, .pinned], laidTests := true, laidLooks := .later }
def PlankPlansUptoCardSaid : Prop := Claim7.holds Tryz.pinned (.plain (OpenSpec.upto plankPlansSpec)) plankPlansUptoCard

/-- THE SECOND FORM's CARD OF 'stricklelaw05.PlankValues'. -/
def plankValuesUptoCard : Claim7 := { stood := { row := plankValuesUptoRow, standIns := [], harness := (true, "4038d376e2922457308e423d31cfb90a55f11c07cef76432d7b92be04083b422"), looks := true }, kinds := [], alts := [], laidByText := true, laidKinds := [.data, .data, .data, .data, .sentinel, .sentinel, .pinned], laidTests := true, laidLooks := .later }
def PlankValuesUptoCardSaid : Prop := Claim7.holds Tryz.pinned (.plain (OpenSpec.upto plankValuesSpec)) plankValuesUptoCard

/-- THE SECOND FORM's CARD OF 'stricklelaw05.PlankDearer'. -/
def plankDearerUptoCard : Claim7 := { stood := { row := plankDearerUptoRow, standIns := [], harness := (true, "4038d376e2922457308e423d31cfb90a55f11c07cef76432d7b92be04083b422"), looks := true }, kinds := [], alts := [], laidByText := true, laidKinds := [.data, .data, .data, .data, .sentinel, .sentinel, .pinned], laidTests := true, laidLooks := .later }
def PlankDearerUptoCardSaid : Prop := Claim7.holds Tryz.pinned (.plain (OpenSpec.upto plankDearerSpec)) plankDearerUptoCard

/-- THE SECOND FORM's CARD OF 'stricklelaw05.PlankDual'. -/
def plankDualUptoCard : Claim7 := { stood := { row := plankDualUptoRow, standIns := [], harness := (true, "4038d376e2922457308e423d31cfb90a55f11c07cef76432d7b92be04083b422"), looks := true }, kinds := [], alts := [], laidByText := true, laidKinds := [.data, .data, .data, .data, .sentinel, .sentinel, .pinned], laidTests := true, laidLooks := .later }
def PlankDualUptoCardSaid : Prop := Claim7.holds Tryz.pinned (.plain (OpenSpec.upto plankDualSpec)) plankDualUptoCard

/-- THE SECOND FORM's CARD OF 'stricklelaw05.PlankMore'. -/
def plankMoreUptoCard : Claim7 := { stood := { row := plankMoreUptoRow, standIns := [], harness := (true, "4038d376e2922457308e423d31cfb90a55f11c07cef76432d7b92be04083b422"), looks := true }, kinds := [], alts := [], laidByText := true, laidKinds := [.data, .data, .data, .data, .sentinel, .sentinel, .pinned], laidTests := true, laidLooks := .later }
def PlankMoreUptoCardSaid : Prop := Claim7.holds Tryz.pinned (.plain (OpenSpec.upto plankMoreSpec)) plankMoreUptoCard

/-- THE SECOND FORM's CARD OF 'stricklelaw05.PlankSaws'. -/
def plankSawsUptoCard : Claim7 := { stood := { row := plankSawsUptoRow, standIns := [], harness := (true, "4038d376e2922457308e423d31cfb90a55f11c07cef76432d7b92be04083b422"), looks := true }, kinds := [], alts := [], laidByText := true, laidKinds := [.data, .data, .data, .data, .sentinel, .sentinel, .pinned], laidTests := true, laidLooks := .later }
def PlankSawsUptoCardSaid : Prop := Claim7.holds Tryz.pinned (.plain (OpenSpec.upto plankSawsSpec)) plankSawsUptoCard

/-- THE SECOND FORM's CARD OF 'stricklelaw05.PlankWood'. -/
def plankWoodUptoCard : Claim7 := { stood := { row := plankWoodUptoRow, standIns := [], harness := (true, "4038d376e2922457308e423d31cfb90a55f11c07cef76432d7b92be04083b422"), looks := true }, kinds := [], alts := [], laidByText := true, laidKinds := [.data, .data, .data, .data, .sentinel, .sentinel, .pinned], laidTests := true, laidLooks := .later }
def PlankWoodUptoCardSaid : Prop := Claim7.holds Tryz.pinned (.plain (OpenSpec.upto plankWoodSpec)) plankWoodUptoCard

/-- THE SECOND FORM's CARD OF 'stricklelaw05.PlankKerf'. -/
def plankKerfUptoCard : Claim7 := { stood := { row := plankKerfUptoRow, standIns := [], harness := (true, "4038d376e2922457308e423d31cfb90a55f11c07cef76432d7b92be04083b422"), looks := true }, kinds := [], alts := [], laidByText := true, laidKinds := [.data, .data, .data, .data, .sentinel, .sentinel, .pinned], laidTests := true, laidLooks := .later }
def PlankKerfUptoCardSaid : Prop := Claim7.holds Tryz.pinned (.plain (OpenSpec.upto plankKerfSpec)) plankKerfUptoCard
end Rows
end Go.Proofs.YteafdpbjocdbbaaGreatDoor
