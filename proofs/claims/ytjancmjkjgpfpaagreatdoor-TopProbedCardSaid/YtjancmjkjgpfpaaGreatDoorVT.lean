/- The run of the example. -/
import Derived.Test.YtjancmjkjgpfpaaGreatDoorVR0
import Derived.Test.YtjancmjkjgpfpaaGreatDoorVR1
import Derived.Test.YtjancmjkjgpfpaaGreatDoorVR2
import Derived.Test.YtjancmjkjgpfpaaGreatDoorVD
set_option linter.all false
set_option maxRecDepth 100000
namespace Go.A.vA
theorem t5:Ev Pk.TP 1000 none c5 e5 [] h5 (.ret,e6,[],h6):=tB s5
theorem t4:Ev Pk.TP 1000 none c4 e4 [] h4 (.ret,e6,[],h6):=wh (by kernel_rfl) (tB s4) t5
theorem t3:Ev Pk.TP 1000 none c3 e3 [] h3 (.ret,e6,[],h6):=wh (by kernel_rfl) (tB s3) t4
theorem t2:Ev Pk.TP 1000 none c2 e2 [] h2 (.ret,e6,[],h6):=wh (by kernel_rfl) (tB s2) t3
theorem t1:Ev Pk.TP 1000 none c1 e1 [] h1 (.ret,e6,[],h6):=wh (by kernel_rfl) (tB s1) t2
theorem t0:Ev Pk.TP 1000 none c0 e0 [] h0 (.ret,e6,[],h6):=wh (by kernel_rfl) (tB s0) t1
theorem run:CW Pk.TP 4 [] h0 λr _=>r= .ret (.bool true):=CW.WY (c:=c0) (rs:=[(0,none)]) (by kernel_rfl) t0 rfl
end Go.A.vA
