/- A part of the run of the example. -/
import Derived.Test.YtalmahakphchfaaGreatDoorSS
import Derived.KernelRfl
set_option linter.all false
set_option maxRecDepth 1000000
namespace Go.A.lT
theorem s7:∀n,(mX Pk.T (n+9000)).exec 1000 none (cL c7) e7 [] h7=some (.normal,e8,[],h8):=fun n=>by kernel_rfl
end Go.A.lT
