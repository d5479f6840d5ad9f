/- A part of the run of the example. -/
import Derived.Test.YteafdpbjocdbbaaGreatDoorWS
import Derived.KernelRfl
set_option linter.all false
set_option linter.all false
set_option maxRecDepth 1000000
namespace Go.A.StkQ
theorem s0:∀n,(famQ Pk.T (n+3000)).exec 1000 none (cL c0) e0 [] h0=some (.normal,e1,[],h1):=fun n=>by kernel_rfl
theorem s1:∀n,(famQ Pk.T (n+3000)).exec 1000 none (cL c1) e1 [] h1=some (.normal,e2,[],h2):=fun n=>by kernel_rfl
theorem s2:∀n,(famQ Pk.T (n+3000)).exec 1000 none (cL c2) e2 [] h2=some (.normal,e3,[],h3):=fun n=>by kernel_rfl
theorem s3:∀n,(famQ Pk.T (n+3000)).exec 1000 none (cL c3) e3 [] h3=some (.normal,e4,[],h4):=fun n=>by kernel_rfl
theorem s4:∀n,(famQ Pk.T (n+3000)).exec 1000 none (cL c4) e4 [] h4=some (.normal,e5,[],h5):=fun n=>by kernel_rfl
theorem s5:∀n,(famQ Pk.T (n+3000)).exec 1000 none (cL c5) e5 [] h5=some (.normal,e6,[],h6):=fun n=>by kernel_rfl
theorem s6:∀n,(famQ Pk.T (n+3000)).exec 1000 none (cL c6) e6 [] h6=some (.normal,e7,[],h7):=fun n=>by kernel_rfl
theorem s7:∀n,(famQ Pk.T (n+3000)).exec 1000 none (cL c7) e7 [] h7=some (.normal,e8,[],h8):=fun n=>by kernel_rfl
theorem s8:∀n,(famQ Pk.T (n+3000)).exec 1000 none (cL c8) e8 [] h8=some (.normal,e9,[],h9):=fun n=>by kernel_rfl
theorem s9:∀n,(famQ Pk.T (n+3000)).exec 1000 none (cL c9) e9 [] h9=some (.normal,e10,[],h10):=fun n=>by kernel_rfl
end Go.A.StkQ
