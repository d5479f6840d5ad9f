/- Facts about the program. -/
import Derived.Test.YtkaeljcfdnhacaaGreatDoorCards
import Derived.Test.YtkaeljcfdnhacaaGreatDoorTie
import Derived.KernelRfl
import Derived.ProofKit
import Derived.OpenShut
import Derived.SevenTiedAt
set_option linter.all false
set_option maxRecDepth 100000
namespace Go.Proofs.YtkaeljcfdnhacaaGreatDoor.facts
open Go Go.ChangeShapes Go.WideShapes Go.ChangeAt Go.RowKit
theorem own:ownKnob Tryz.prog.godebug=none:=by kernel_rfl
theorem laidOut:laidOutB Tryz.prog=true:=by kernel_rfl
theorem XZ:mapsRowed Tryz.prog=true:=by kernel_rfl
theorem Vn:(Tryz.prog.stops==[])=true:=by kernel_rfl
theorem Uh:(Tryz.prog.stopKnobs==[])=true:=by kernel_rfl
theorem heard:Tryz.prog.stopsHeard=true:=by kernel_rfl
theorem enter:Tryz.prog.mayEnter=true:=by kernel_rfl
theorem keys:(Rows.caliperChecksRow.plainKeys==Tryz.prog.plainKeys)=true:=by kernel_rfl
theorem lift:(Rows.caliperChecksRow.lifted==Tryz.prog.liftsFinal)=true:=by kernel_rfl
theorem make:(Tryz.prog.make==some Rows.caliperChecksRow.make)=true:=by kernel_rfl
theorem Um:true=Tryz.prog.looks []:=by kernel_rfl
end Go.Proofs.YtkaeljcfdnhacaaGreatDoor.facts
