/-
  DERIVED. GIVEN WITH THE SEED: THE CARDS: each row of YtalmahakphchfaaGreatDoorRows.lean that lists a variable, with what it lists TIED to the program's text (the seventh form; the later family's looks); each row that meets fmt, with fmt's text TOLD by the authors' own Lean function (tested against real Go, not proved from fmt's source: count such statements apart). THE CARD IS WHAT COUNTS. Prove the row's statement (the work); the ties are given (YtalmahakphchfaaGreatDoorTie.lean); close each card by the builder's one call (the guide's Derived/Test/ToyasCard.lean, 'card_holds'). Laid BY PROGRAM, IN A SANDBOX (cutbox-door.mjs). By AI agents, Wed Nov 11 2026. No macro, syntax, notation, axiom, sorry.
-/
import Derived.Test.YtalmahakphchfaaGreatDoorRows
import GoSem.ClaimSeven
namespace Go.Proofs.YtalmahakphchfaaGreatDoor
namespace Rows

/-- THE TIED CARD OF 'stricklelaw08.CaliperNumbers'. -/
def caliperNumbersCard : Claim7 := { stood := { row := caliperNumbersRow, standIns := [], harness := (true, "c0a87deee997dd6abcd80bec0c19c3571f89897d83a0edbe2fe62bd6918dc383"), looks := true }, kinds := [], alts := [], laidByText := true, laidKinds := [.data], laidTests := true, laidLooks := .later }
def CaliperNumbersCardSaid : Prop := Claim7.holds Tryz.pinned (.plain (OpenSpec.ofChange caliperNumbersSpec)) caliperNumbersCard

/-- THE TIED CARD OF 'stricklelaw08.CaliperSeasons'. -/
def caliperSeasonsCard : Claim7 := { stood := { row := caliperSeasonsRow, standIns := [], harness := (true, "c0a87deee997dd6abcd80bec0c19c3571f89897d83a0edbe2fe62bd6918dc383"), looks := true }, kinds := [], alts := [], laidByText := true, laidKinds := [.data], laidTests := true, laidLooks := .later }
def CaliperSeasonsCardSaid : Prop := Claim7.holds Tryz.pinned (.plain (OpenSpec.ofChange caliperSeasonsSpec)) caliperSeasonsCard

/-- THE SECOND FORM's CARD OF 'stricklelaw08.CaliperNumbers'. -/
def caliperNumbersUptoCard : Claim7 := { stood := { row := caliperNumbersUptoRow, standIns := [], harness := (true, "c0a87deee997dd6abcd80bec0c19c3571f89897d83a0edbe2fe62bd6918dc383"), looks := true }, kinds := [], alts := [], laidByText := true, laidKinds := [.data], laidTests := true, laidLooks := .later }
def CaliperNumbersUptoCardSaid : Prop := Claim7.holds Tryz.pinned (.plain (OpenSpec.upto caliperNumbersSpec)) caliperNumbersUptoCard

/-- THE SECOND FORM's CARD OF 'stricklelaw08.CaliperSeasons'. -/
def caliperSeasonsUptoCard : Claim7 := { stood := { row := caliperSeasonsUptoRow, standIns := [], harness := (true, "c0a87deee997dd6abcd80bec0c19c3571f89897d83a0edbe2fe62bd6918dc383"), looks := true }, kinds := [], alts := [], laidByText := true, laidKinds := [.data], laidTests := true, laidLooks := .later }
def CaliperSeasonsUptoCardSaid : Prop := Claim7.holds Tryz.pinned (.plain (OpenSpec.upto caliperSeasonsSpec)) caliperSeasonsUptoCard
end Rows
end Go.Proofs.YtalmahakphchfaaGreatDoor
