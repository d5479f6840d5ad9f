/- A part of the run of the example. -/
import Derived.Test.YtjancmjkjgpfpaaGreatDoorVS
import Derived.KernelRfl
set_option linter.all false
set_option maxRecDepth 1000000
namespace Go.A.vA
theorem s0:∀n,(Az Pk.TP (n+9000)).exec 1000 none (cL c0) e0 [] h0=some (.normal,e1,[],h1):=λn=>by kernel_rfl
theorem s1:∀n,(Az Pk.TP (n+9000)).exec 1000 none (cL c1) e1 [] h1=some (.normal,e2,[],h2):=λn=>by kernel_rfl
end Go.A.vA
