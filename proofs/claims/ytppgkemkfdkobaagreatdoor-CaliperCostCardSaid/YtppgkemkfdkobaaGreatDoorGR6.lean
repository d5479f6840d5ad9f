/- A part of the run of the example. -/
import Derived.Test.YtppgkemkfdkobaaGreatDoorGS
import Derived.KernelRfl
set_option linter.all false
set_option maxRecDepth 1000000
namespace Go.A.qe
def s10:∀n,(rV Pk.T (n+9000)).exec 1000 none (cL c10) e10 [] h10=some (.normal,e11,[],h11):=λn=>by kernel_rfl
def s11:∀n,(rV Pk.T (n+9000)).exec 1000 none (cL c11) e11 [] h11=some (.normal,e12,[],h12):=λn=>by kernel_rfl
def s12:∀n,(rV Pk.T (n+9000)).exec 1000 none (cL c12) e12 [] h12=some (.normal,e13,[],h13):=λn=>by kernel_rfl
def s13:∀n,(rV Pk.T (n+9000)).exec 1000 none c13 e13 [] h13=some (.ret,e14,[],h14):=λn=>by kernel_rfl
end Go.A.qe
