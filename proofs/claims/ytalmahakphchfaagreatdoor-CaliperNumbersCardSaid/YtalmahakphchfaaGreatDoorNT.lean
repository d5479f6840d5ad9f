/- The run of the example. -/
import Derived.Test.YtalmahakphchfaaGreatDoorNR0
import Derived.Test.YtalmahakphchfaaGreatDoorNR1
import Derived.Test.YtalmahakphchfaaGreatDoorNR2
import Derived.Test.YtalmahakphchfaaGreatDoorNR3
import Derived.Test.YtalmahakphchfaaGreatDoorNR4
import Derived.Test.YtalmahakphchfaaGreatDoorNR5
import Derived.Test.YtalmahakphchfaaGreatDoorNR6
import Derived.Test.YtalmahakphchfaaGreatDoorND
set_option linter.all false
set_option maxRecDepth 100000
namespace Go.A.mB
theorem t13:Ev Pk.T 1000 none c13 e13 [] h13 (.ret,e14,[],h14):=iZ s13
theorem t12:Ev Pk.T 1000 none c12 e12 [] h12 (.ret,e14,[],h14):=jx (by kernel_rfl) (iZ s12) t13
theorem t11:Ev Pk.T 1000 none c11 e11 [] h11 (.ret,e14,[],h14):=jx (by kernel_rfl) (iZ s11) t12
theorem t10:Ev Pk.T 1000 none c10 e10 [] h10 (.ret,e14,[],h14):=jx (by kernel_rfl) (iZ s10) t11
theorem t9:Ev Pk.T 1000 none c9 e9 [] h9 (.ret,e14,[],h14):=jx (by kernel_rfl) (iZ s9) t10
theorem t8:Ev Pk.T 1000 none c8 e8 [] h8 (.ret,e14,[],h14):=jx (by kernel_rfl) (iZ s8) t9
theorem t7:Ev Pk.T 1000 none c7 e7 [] h7 (.ret,e14,[],h14):=jx (by kernel_rfl) (iZ s7) t8
theorem t6:Ev Pk.T 1000 none c6 e6 [] h6 (.ret,e14,[],h14):=jx (by kernel_rfl) (iZ s6) t7
theorem t5:Ev Pk.T 1000 none c5 e5 [] h5 (.ret,e14,[],h14):=jx (by kernel_rfl) (iZ s5) t6
theorem t4:Ev Pk.T 1000 none c4 e4 [] h4 (.ret,e14,[],h14):=jx (by kernel_rfl) (iZ s4) t5
theorem t3:Ev Pk.T 1000 none c3 e3 [] h3 (.ret,e14,[],h14):=jx (by kernel_rfl) (iZ s3) t4
theorem t2:Ev Pk.T 1000 none c2 e2 [] h2 (.ret,e14,[],h14):=jx (by kernel_rfl) (iZ s2) t3
theorem t1:Ev Pk.T 1000 none c1 e1 [] h1 (.ret,e14,[],h14):=jx (by kernel_rfl) (iZ s1) t2
theorem t0:Ev Pk.T 1000 none c0 e0 [] h0 (.ret,e14,[],h14):=jx (by kernel_rfl) (iZ s0) t1
theorem run:CW Pk.T 6 [] h0 λr _=>r= .ret (.bool true):=CW.TQ (c:=c0) (rs:=[(0,none)]) (by kernel_rfl) t0 rfl
end Go.A.mB
