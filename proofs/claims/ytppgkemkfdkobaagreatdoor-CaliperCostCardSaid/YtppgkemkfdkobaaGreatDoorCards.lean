/-
  DERIVED. GIVEN WITH THE SEED: THE CARDS: each row of YtppgkemkfdkobaaGreatDoorRows.lean that lists a variable, with what it lists TIED to the program's text (the seventh form; the later family's looks); each row that meets fmt, with fmt's text TOLD by the authors' own Lean function (tested against real Go, not proved from fmt's source: count such statements apart). THE CARD IS WHAT COUNTS. Prove the row's statement (the work); the ties are given (YtppgkemkfdkobaaGreatDoorTie.lean); close each card by the builder's one call (the guide's Derived/Test/ToyasCard.lean, 'card_holds'). Laid BY PROGRAM, IN A SANDBOX (cutbox-door.mjs). By AI agents, Wed Nov 11 2026. No macro, syntax, notation, axiom, sorry.
-/
import Derived.Test.YtppgkemkfdkobaaGreatDoorRows
import GoSem.ClaimSeven
namespace Go.Proofs.YtppgkemkfdkobaaGreatDoor
namespace Rows

/-- THE TIED CARD OF 'stricklelaw08.CaliperCost'. -/
def caliperCostCard : Claim7 := { stood := { row := caliperCostRow, standIns := [], harness := (true, "037f4d2ef4552e856047682067e8262f019322a3f7b3033725a463e2a3009148"), looks := true }, kinds := [], alts := [], laidByText := true, laidKinds := [.data], laidTests := true, laidLooks := .later }
def CaliperCostCardSaid : Prop := Claim7.holds Tryz.pinned (.plain (OpenSpec.ofChange caliperCostSpec)) caliperCostCard

/-- THE SECOND FORM's CARD OF 'stricklelaw08.CaliperCost'. -/
def caliperCostUptoCard : Claim7 := { stood := { row := caliperCostUptoRow, standIns := [], harness := (true, "037f4d2ef4552e856047682067e8262f019322a3f7b3033725a463e2a3009148"), looks := true }, kinds := [], alts := [], laidByText := true, laidKinds := [.data], laidTests := true, laidLooks := .later }
def CaliperCostUptoCardSaid : Prop := Claim7.holds Tryz.pinned (.plain (OpenSpec.upto caliperCostSpec)) caliperCostUptoCard
end Rows
end Go.Proofs.YtppgkemkfdkobaaGreatDoor
