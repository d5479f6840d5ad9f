/- A part of the run of the example. -/
import Derived.Test.YtjancmjkjgpfpaaGreatDoorVS
import Derived.KernelRfl
set_option linter.all false
set_option maxRecDepth 1000000
namespace Go.A.vA
theorem s3:∀n,(Az Pk.TP (n+9000)).exec 1000 none (cL c3) e3 [] h3=some (.normal,e4,[],h4):=λn=>by kernel_rfl
theorem s4:∀n,(Az Pk.TP (n+9000)).exec 1000 none (cL c4) e4 [] h4=some (.normal,e5,[],h5):=λn=>by kernel_rfl
theorem s5:∀n,(Az Pk.TP (n+9000)).exec 1000 none c5 e5 [] h5=some (.ret,e6,[],h6):=λn=>by kernel_rfl
end Go.A.vA
