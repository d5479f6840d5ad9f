/- The run of the example. -/
import Derived.Test.YtppgkemkfdkobaaGreatDoorGR0
import Derived.Test.YtppgkemkfdkobaaGreatDoorGR1
import Derived.Test.YtppgkemkfdkobaaGreatDoorGR2
import Derived.Test.YtppgkemkfdkobaaGreatDoorGR3
import Derived.Test.YtppgkemkfdkobaaGreatDoorGR4
import Derived.Test.YtppgkemkfdkobaaGreatDoorGR5
import Derived.Test.YtppgkemkfdkobaaGreatDoorGR6
import Derived.Test.YtppgkemkfdkobaaGreatDoorGD
set_option linter.all false
set_option maxRecDepth 100000
namespace Go.A.qe
def t13:Ev Pk.T 1000 none c13 e13 [] h13 (.ret,e14,[],h14):=kI s13
def t12:Ev Pk.T 1000 none c12 e12 [] h12 (.ret,e14,[],h14):=lK (by kernel_rfl) (kI s12) t13
def t11:Ev Pk.T 1000 none c11 e11 [] h11 (.ret,e14,[],h14):=lK (by kernel_rfl) (kI s11) t12
def t10:Ev Pk.T 1000 none c10 e10 [] h10 (.ret,e14,[],h14):=lK (by kernel_rfl) (kI s10) t11
def t9:Ev Pk.T 1000 none c9 e9 [] h9 (.ret,e14,[],h14):=lK (by kernel_rfl) (kI s9) t10
def t8:Ev Pk.T 1000 none c8 e8 [] h8 (.ret,e14,[],h14):=lK (by kernel_rfl) (kI s8) t9
def t7:Ev Pk.T 1000 none c7 e7 [] h7 (.ret,e14,[],h14):=lK (by kernel_rfl) (kI s7) t8
def t6:Ev Pk.T 1000 none c6 e6 [] h6 (.ret,e14,[],h14):=lK (by kernel_rfl) (kI s6) t7
def t5:Ev Pk.T 1000 none c5 e5 [] h5 (.ret,e14,[],h14):=lK (by kernel_rfl) (kI s5) t6
def t4:Ev Pk.T 1000 none c4 e4 [] h4 (.ret,e14,[],h14):=lK (by kernel_rfl) (kI s4) t5
def t3:Ev Pk.T 1000 none c3 e3 [] h3 (.ret,e14,[],h14):=lK (by kernel_rfl) (kI s3) t4
def t2:Ev Pk.T 1000 none c2 e2 [] h2 (.ret,e14,[],h14):=lK (by kernel_rfl) (kI s2) t3
def t1:Ev Pk.T 1000 none c1 e1 [] h1 (.ret,e14,[],h14):=lK (by kernel_rfl) (kI s1) t2
def t0:Ev Pk.T 1000 none c0 e0 [] h0 (.ret,e14,[],h14):=lK (by kernel_rfl) (kI s0) t1
def run:CW Pk.T 5 [] h0 λr _=>r= .ret (.bool true):=CW.abt (c:=c0) (rs:=[(0,none)]) (by kernel_rfl) t0 rfl
end Go.A.qe
