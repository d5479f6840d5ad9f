/- A part of the run of the example. -/
import Derived.Test.YtalmahakphchfaaGreatDoorSS
import Derived.KernelRfl
set_option linter.all false
set_option maxRecDepth 1000000
namespace Go.A.lT
theorem s10:∀n,(mX Pk.T (n+9000)).exec 1000 none (cL c10) e10 [] h10=some (.normal,e11,[],h11):=fun n=>by kernel_rfl
theorem s11:∀n,(mX Pk.T (n+9000)).exec 1000 none (cL c11) e11 [] h11=some (.normal,e12,[],h12):=fun n=>by kernel_rfl
theorem s12:∀n,(mX Pk.T (n+9000)).exec 1000 none (cL c12) e12 [] h12=some (.normal,e13,[],h13):=fun n=>by kernel_rfl
theorem s13:∀n,(mX Pk.T (n+9000)).exec 1000 none c13 e13 [] h13=some (.ret,e14,[],h14):=fun n=>by kernel_rfl
end Go.A.lT
