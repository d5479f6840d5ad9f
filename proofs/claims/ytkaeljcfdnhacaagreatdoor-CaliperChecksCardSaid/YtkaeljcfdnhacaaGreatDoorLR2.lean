/- A part of the run of the example. -/
import Derived.Test.YtkaeljcfdnhacaaGreatDoorLS
import Derived.KernelRfl
set_option linter.all false
set_option maxRecDepth 1000000
namespace Go.A.oN
theorem s6:∀n,(qm Pk.T (n+9000)).exec 1000 none (cL c6) e6 [] h6=some (.normal,e7,[],h7):=λn=>by kernel_rfl
end Go.A.oN
