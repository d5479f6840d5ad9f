/- A part of the run of the example. -/
import Derived.Test.YtalmahakphchfaaGreatDoorSS
import Derived.KernelRfl
set_option linter.all false
set_option maxRecDepth 1000000
namespace Go.A.lT
theorem s0:∀n,(mX Pk.T (n+9000)).exec 1000 none (cL c0) e0 [] h0=some (.normal,e1,[],h1):=fun n=>by kernel_rfl
theorem s1:∀n,(mX Pk.T (n+9000)).exec 1000 none (cL c1) e1 [] h1=some (.normal,e2,[],h2):=fun n=>by kernel_rfl
theorem s2:∀n,(mX Pk.T (n+9000)).exec 1000 none (cL c2) e2 [] h2=some (.normal,e3,[],h3):=fun n=>by kernel_rfl
theorem s3:∀n,(mX Pk.T (n+9000)).exec 1000 none (cL c3) e3 [] h3=some (.normal,e4,[],h4):=fun n=>by kernel_rfl
theorem s4:∀n,(mX Pk.T (n+9000)).exec 1000 none (cL c4) e4 [] h4=some (.normal,e5,[],h5):=fun n=>by kernel_rfl
end Go.A.lT
