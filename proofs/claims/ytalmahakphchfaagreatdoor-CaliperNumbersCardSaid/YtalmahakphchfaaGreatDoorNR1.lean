/- A part of the run of the example. -/
import Derived.Test.YtalmahakphchfaaGreatDoorNS
import Derived.KernelRfl
set_option linter.all false
set_option maxRecDepth 1000000
namespace Go.A.mB
theorem s5:∀n,(nN Pk.T (n+9000)).exec 1000 none (cL c5) e5 [] h5=some (.normal,e6,[],h6):=λn=>by kernel_rfl
end Go.A.mB
