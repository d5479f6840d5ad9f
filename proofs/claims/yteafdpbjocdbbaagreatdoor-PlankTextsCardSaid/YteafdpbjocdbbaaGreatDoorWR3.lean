/- A part of the run of the example. -/
import Derived.Test.YteafdpbjocdbbaaGreatDoorWS
import Derived.KernelRfl
set_option linter.all false
set_option linter.all false
set_option maxRecDepth 1000000
namespace Go.A.StkQ
theorem s12:∀n,(famQ Pk.T (n+3000)).exec 1000 none (cL c12) e12 [] h12=some (.normal,e13,[],h13):=fun n=>by kernel_rfl
end Go.A.StkQ
