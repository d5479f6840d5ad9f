/- Facts about the program. -/
import Derived.Test.YtjancmjkjgpfpaaGreatDoorCards
import Derived.Test.YtjancmjkjgpfpaaGreatDoorTie
import Derived.KernelRfl
import Derived.ProofKit
import Derived.OpenShut
import Derived.SevenTiedAt
set_option linter.all false
set_option maxRecDepth 100000
namespace Go.Proofs.YtjancmjkjgpfpaaGreatDoor.facts
open Go Go.ChangeShapes Go.WideShapes Go.ChangeAt Go.RowKit
theorem own:ownKnob Tryz.prog.godebug=none:=by kernel_rfl
theorem laidOut:laidOutB Tryz.prog=true:=by kernel_rfl
theorem UW:mapsRowed Tryz.prog=true:=by kernel_rfl
theorem SU:(Tryz.prog.stops==[])=true:=by kernel_rfl
theorem RK:(Tryz.prog.stopKnobs==[])=true:=by kernel_rfl
theorem heard:Tryz.prog.stopsHeard=true:=by kernel_rfl
theorem enter:Tryz.prog.mayEnter=true:=by kernel_rfl
theorem keys:(Rows.topProbedRow.plainKeys==Tryz.prog.plainKeys)=true:=by kernel_rfl
theorem lift:(Rows.topProbedRow.lifted==Tryz.prog.liftsFinal)=true:=by kernel_rfl
theorem make:(Tryz.prog.make==some Rows.topProbedRow.make)=true:=by kernel_rfl
theorem RP:false=Tryz.prog.looks []:=by kernel_rfl
end Go.Proofs.YtjancmjkjgpfpaaGreatDoor.facts
