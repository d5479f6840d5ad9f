/-
  DERIVED. GIVEN WITH THE SEED: THE CARDS: each row of YthnjljpaipomgaaGreatDoorRows.lean that lists a variable, with what it lists TIED to the program's text (the seventh form; the later family's looks); each row that meets fmt, with fmt's text TOLD by the authors' own Lean function (tested against real Go, not proved from fmt's source: count such statements apart). THE CARD IS WHAT COUNTS. Prove the row's statement (the work); the ties are given (YthnjljpaipomgaaGreatDoorTie.lean); close each card by the builder's one call (the guide's Derived/Test/ToyasCard.lean, 'card_holds'). Laid BY PROGRAM, IN A SANDBOX (cutbox-door.mjs). By AI agents, Wed Nov 11 2026. No macro, syntax, notation, axiom, sorry.
-/
import Derived.Test.YthnjljpaipomgaaGreatDoorRows
import GoSem.ClaimSeven
namespace Go.Proofs.YthnjljpaipomgaaGreatDoor
namespace Rows

/-- THE TIED CARD OF 'stricklelaw08.CaliperValue'. -/
def caliperValueCard : Claim7 := { stood := { row := caliperValueRow, standIns := [], harness := (true, "569630cc59327df13d66af6e8ce7de56637c39397708bfd3176c9c8753b4b4c9"), looks := true }, kinds := [], alts := [], laidByText := true, laidKinds := [.data], laidTests := true, laidLooks := .later }
def CaliperValueCardSaid : Prop := Claim7.holds Tryz.pinned (.plain (OpenSpec.ofChange caliperValueSpec)) caliperValueCard

/-- THE SECOND FORM's CARD OF 'stricklelaw08.CaliperValue'. -/
def caliperValueUptoCard : Claim7 := { stood := { row := caliperValueUptoRow, standIns := [], harness := (true, "569630cc59327df13d66af6e8ce7de56637c39397708bfd3176c9c8753b4b4c9"), looks := true }, kinds := [], alts := [], laidByText := true, laidKinds := [.data], laidTests := true, laidLooks := .later }
def CaliperValueUptoCardSaid : Prop := Claim7.holds Tryz.pinned (.plain (OpenSpec.upto caliperValueSpec)) caliperValueUptoCard
end Rows
end Go.Proofs.YthnjljpaipomgaaGreatDoor
