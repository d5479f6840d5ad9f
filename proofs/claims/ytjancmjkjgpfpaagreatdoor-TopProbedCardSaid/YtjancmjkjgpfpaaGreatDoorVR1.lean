/- A part of the run of the example. -/
import Derived.Test.YtjancmjkjgpfpaaGreatDoorVS
import Derived.KernelRfl
set_option linter.all false
set_option maxRecDepth 1000000
namespace Go.A.vA
theorem s2:∀n,(Az Pk.TP (n+9000)).exec 1000 none (cL c2) e2 [] h2=some (.normal,e3,[],h3):=λn=>by kernel_rfl
end Go.A.vA
