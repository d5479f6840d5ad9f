/- Facts about the program. -/
import Derived.Test.YtppgkemkfdkobaaGreatDoorCards
import Derived.Test.YtppgkemkfdkobaaGreatDoorTie
import Derived.KernelRfl
import Derived.ProofKit
import Derived.OpenShut
import Derived.SevenTiedAt
set_option linter.all false
set_option maxRecDepth 100000
namespace Go.Proofs.YtppgkemkfdkobaaGreatDoor.facts
open Go Go.ChangeShapes Go.WideShapes Go.ChangeAt Go.RowKit
def own:ownKnob Tryz.prog.godebug=none:=by kernel_rfl
def laidOut:laidOutB Tryz.prog=true:=by kernel_rfl
def YR:mapsRowed Tryz.prog=true:=by kernel_rfl
def Ww:(Tryz.prog.stops==[])=true:=by kernel_rfl
def Vl:(Tryz.prog.stopKnobs==[])=true:=by kernel_rfl
def heard:Tryz.prog.stopsHeard=true:=by kernel_rfl
def enter:Tryz.prog.mayEnter=true:=by kernel_rfl
def keys:(Rows.caliperCostRow.plainKeys==Tryz.prog.plainKeys)=true:=by kernel_rfl
def lift:(Rows.caliperCostRow.lifted==Tryz.prog.liftsFinal)=true:=by kernel_rfl
def make:(Tryz.prog.make==some Rows.caliperCostRow.make)=true:=by kernel_rfl
def Vq:true=Tryz.prog.looks []:=by kernel_rfl
end Go.Proofs.YtppgkemkfdkobaaGreatDoor.facts
