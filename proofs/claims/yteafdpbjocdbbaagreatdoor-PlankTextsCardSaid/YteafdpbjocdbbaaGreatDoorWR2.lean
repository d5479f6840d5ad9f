/- A part of the run of the example. -/
import Derived.Test.YteafdpbjocdbbaaGreatDoorWS
import Derived.KernelRfl
set_option linter.all false
set_option linter.all false
set_option maxRecDepth 1000000
namespace Go.A.StkQ
theorem s11:∀n,(famQ Pk.T (n+3000)).exec 1000 none (cL c11) e11 [] h11=some (.normal,e12,[],h12):=fun n=>by kernel_rfl
end Go.A.StkQ
