/- A part of the run of the example. -/
import Derived.Test.YtalmahakphchfaaGreatDoorNS
import Derived.KernelRfl
set_option linter.all false
set_option maxRecDepth 1000000
namespace Go.A.mB
theorem s7:∀n,(nN Pk.T (n+9000)).exec 1000 none (cL c7) e7 [] h7=some (.normal,e8,[],h8):=λn=>by kernel_rfl
end Go.A.mB
