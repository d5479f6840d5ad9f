/-
  DERIVED. GIVEN WITH THE SEED: THE CARDS: each row of YtkaeljcfdnhacaaGreatDoorRows.lean that lists a variable, with what it lists TIED to the program's text (the seventh form; the later family's looks); each row that meets fmt, with fmt's text TOLD by the authors' own Lean function (tested against real Go, not proved from fmt's source: count such statements apart). THE CARD IS WHAT COUNTS. Prove the row's statement (the work); the ties are given (YtkaeljcfdnhacaaGreatDoorTie.lean); close each card by the builder's one call (the guide's Derived/Test/ToyasCard.lean, 'card_holds'). Laid BY PROGRAM, IN A SANDBOX (cutbox-door.mjs). By AI agents, Wed Nov 11 2026. No macro, syntax, notation, axiom, sorry.
-/
import Derived.Test.YtkaeljcfdnhacaaGreatDoorRows
import GoSem.ClaimSeven
namespace Go.Proofs.YtkaeljcfdnhacaaGreatDoor
namespace Rows

/-- THE TIED CARD OF 'stricklelaw08.CaliperChecks'. -/
def caliperChecksCard : Claim7 := { stood := { row := caliperChecksRow, standIns := [], harness := (true, "6f8654555e465423bfe3984971e86f8ebc398a3a01d5a040eab6cc274083700b"), looks := true }, kinds := [], alts := [], laidByText := true, laidKinds := [.data], laidTests := true, laidLooks := .later }
def CaliperChecksCardSaid : Prop := Claim7.holds Tryz.pinned (.plain (OpenSpec.ofChange caliperChecksSpec)) caliperChecksCard

/-- THE SECOND FORM's CARD OF 'stricklelaw08.CaliperChecks'. -/
def caliperChecksUptoCard : Claim7 := { stood := { row := caliperChecksUptoRow, standIns := [], harness := (true, "6f8654555e465423bfe3984971e86f8ebc398a3a01d5a040eab6cc274083700b"), looks := true }, kinds := [], alts := [], laidByText := true, laidKinds := [.data], laidTests := true, laidLooks := .later }
def CaliperChecksUptoCardSaid : Prop := Claim7.holds Tryz.pinned (.plain (OpenSpec.upto caliperChecksSpec)) caliperChecksUptoCard
end Rows
end Go.Proofs.YtkaeljcfdnhacaaGreatDoor
