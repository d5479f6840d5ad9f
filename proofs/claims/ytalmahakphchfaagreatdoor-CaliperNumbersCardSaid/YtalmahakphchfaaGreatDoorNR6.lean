/- A part of the run of the example. -/
import Derived.Test.YtalmahakphchfaaGreatDoorNS
import Derived.KernelRfl
set_option linter.all false
set_option maxRecDepth 1000000
namespace Go.A.mB
theorem s10:∀n,(nN Pk.T (n+9000)).exec 1000 none (cL c10) e10 [] h10=some (.normal,e11,[],h11):=λn=>by kernel_rfl
theorem s11:∀n,(nN Pk.T (n+9000)).exec 1000 none (cL c11) e11 [] h11=some (.normal,e12,[],h12):=λn=>by kernel_rfl
theorem s12:∀n,(nN Pk.T (n+9000)).exec 1000 none (cL c12) e12 [] h12=some (.normal,e13,[],h13):=λn=>by kernel_rfl
theorem s13:∀n,(nN Pk.T (n+9000)).exec 1000 none c13 e13 [] h13=some (.ret,e14,[],h14):=λn=>by kernel_rfl
end Go.A.mB
