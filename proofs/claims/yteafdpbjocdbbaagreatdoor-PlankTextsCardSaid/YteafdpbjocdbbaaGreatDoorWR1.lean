/- A part of the run of the example. -/
import Derived.Test.YteafdpbjocdbbaaGreatDoorWS
import Derived.KernelRfl
set_option linter.all false
set_option linter.all false
set_option maxRecDepth 1000000
namespace Go.A.StkQ
theorem s10:∀n,(famQ Pk.T (n+3000)).exec 1000 none (cL c10) e10 [] h10=some (.normal,e11,[],h11):=fun n=>by kernel_rfl
end Go.A.StkQ
