/- A part of the run of the example. -/
import Derived.Test.YtalmahakphchfaaGreatDoorNS
import Derived.KernelRfl
set_option linter.all false
set_option maxRecDepth 1000000
namespace Go.A.mB
theorem s0:∀n,(nN Pk.T (n+9000)).exec 1000 none (cL c0) e0 [] h0=some (.normal,e1,[],h1):=λn=>by kernel_rfl
theorem s1:∀n,(nN Pk.T (n+9000)).exec 1000 none (cL c1) e1 [] h1=some (.normal,e2,[],h2):=λn=>by kernel_rfl
theorem s2:∀n,(nN Pk.T (n+9000)).exec 1000 none (cL c2) e2 [] h2=some (.normal,e3,[],h3):=λn=>by kernel_rfl
theorem s3:∀n,(nN Pk.T (n+9000)).exec 1000 none (cL c3) e3 [] h3=some (.normal,e4,[],h4):=λn=>by kernel_rfl
theorem s4:∀n,(nN Pk.T (n+9000)).exec 1000 none (cL c4) e4 [] h4=some (.normal,e5,[],h5):=λn=>by kernel_rfl
end Go.A.mB
