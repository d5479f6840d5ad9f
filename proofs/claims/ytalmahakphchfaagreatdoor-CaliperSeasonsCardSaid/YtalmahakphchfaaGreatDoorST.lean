/- The run of the example. -/
import Derived.Test.YtalmahakphchfaaGreatDoorSR0
import Derived.Test.YtalmahakphchfaaGreatDoorSR1
import Derived.Test.YtalmahakphchfaaGreatDoorSR2
import Derived.Test.YtalmahakphchfaaGreatDoorSR3
import Derived.Test.YtalmahakphchfaaGreatDoorSR4
import Derived.Test.YtalmahakphchfaaGreatDoorSR5
import Derived.Test.YtalmahakphchfaaGreatDoorSR6
import Derived.Test.YtalmahakphchfaaGreatDoorSD
set_option linter.all false
set_option maxRecDepth 100000
namespace Go.A.lT
theorem t13:Ev Pk.T 1000 none c13 e13 [] h13 (.ret,e14,[],h14):=iW s13
theorem t12:Ev Pk.T 1000 none c12 e12 [] h12 (.ret,e14,[],h14):=jr (by kernel_rfl) (iW s12) t13
theorem t11:Ev Pk.T 1000 none c11 e11 [] h11 (.ret,e14,[],h14):=jr (by kernel_rfl) (iW s11) t12
theorem t10:Ev Pk.T 1000 none c10 e10 [] h10 (.ret,e14,[],h14):=jr (by kernel_rfl) (iW s10) t11
theorem t9:Ev Pk.T 1000 none c9 e9 [] h9 (.ret,e14,[],h14):=jr (by kernel_rfl) (iW s9) t10
theorem t8:Ev Pk.T 1000 none c8 e8 [] h8 (.ret,e14,[],h14):=jr (by kernel_rfl) (iW s8) t9
theorem t7:Ev Pk.T 1000 none c7 e7 [] h7 (.ret,e14,[],h14):=jr (by kernel_rfl) (iW s7) t8
theorem t6:Ev Pk.T 1000 none c6 e6 [] h6 (.ret,e14,[],h14):=jr (by kernel_rfl) (iW s6) t7
theorem t5:Ev Pk.T 1000 none c5 e5 [] h5 (.ret,e14,[],h14):=jr (by kernel_rfl) (iW s5) t6
theorem t4:Ev Pk.T 1000 none c4 e4 [] h4 (.ret,e14,[],h14):=jr (by kernel_rfl) (iW s4) t5
theorem t3:Ev Pk.T 1000 none c3 e3 [] h3 (.ret,e14,[],h14):=jr (by kernel_rfl) (iW s3) t4
theorem t2:Ev Pk.T 1000 none c2 e2 [] h2 (.ret,e14,[],h14):=jr (by kernel_rfl) (iW s2) t3
theorem t1:Ev Pk.T 1000 none c1 e1 [] h1 (.ret,e14,[],h14):=jr (by kernel_rfl) (iW s1) t2
theorem t0:Ev Pk.T 1000 none c0 e0 [] h0 (.ret,e14,[],h14):=jr (by kernel_rfl) (iW s0) t1
theorem run:CW Pk.T 6 [] h0 fun r _=>r= .ret (.bool true):=CW.QD (c:=c0) (rs:=[(0,none)]) (by kernel_rfl) t0 rfl
end Go.A.lT
