/-
  DERIVED. GIVEN WITH THE SEED: THE CARDS: each row of YtjancmjkjgpfpaaGreatDoorRows.lean that lists a variable, with what it lists TIED to the program's text (the seventh form; the later family's looks); each row that meets fmt, with fmt's text TOLD by the authors' own Lean function (tested against real Go, not proved from fmt's source: count such statements apart). THE CARD IS WHAT COUNTS. Prove the row's statement (the work); the ties are given (YtjancmjkjgpfpaaGreatDoorTie.lean); close each card by the builder's one call (the guide's Derived/Test/ToyasCard.lean, 'card_holds'). Laid BY PROGRAM, IN A SANDBOX (cutbox-door.mjs). By AI agents, Wed Nov 11 2026. No macro, syntax, notation, axiom, sorry.
-/
import Derived.Test.YtjancmjkjgpfpaaGreatDoorRows
import GoSem.ClaimSeven
namespace Go.Proofs.YtjancmjkjgpfpaaGreatDoor
namespace Rows

/-- THE TIED CARD OF 'strickletop.TopProbed'. -/
def topProbedCard : Claim7 := { stood := { row := topProbedRow, standIns := [], harness := (true, "559d73d1843513d322ca9daa4a8a645476e78dd53510e946afa19d7fe5f44b7f"), looks := false }, kinds := [], alts := [], laidByText := true, laidKinds := [.data], laidTests := true, laidLooks := .later }
def TopProbedCardSaid : Prop := Claim7.holds Tryz.pinned (.plain (OpenSpec.ofChange topProbedSpec)) topProbedCard

/-- THE SECOND FORM's CARD OF 'strickletop.TopProbed'. -/
def topProbedUptoCard : Claim7 := { stood := { row := topProbedUptoRow, standIns := [], harness := (true, "559d73d1843513d322ca9daa4a8a645476e78dd53510e946afa19d7fe5f44b7f"), looks := false }, kinds := [], alts := [], laidByText := true, laidKinds := [.data], laidTests := true, laidLooks := .later }
def TopProbedUptoCardSaid : Prop := Claim7.holds Tryz.pinned (.plain (OpenSpec.upto topProbedSpec)) topProbedUptoCard
end Rows
end Go.Proofs.YtjancmjkjgpfpaaGreatDoor
