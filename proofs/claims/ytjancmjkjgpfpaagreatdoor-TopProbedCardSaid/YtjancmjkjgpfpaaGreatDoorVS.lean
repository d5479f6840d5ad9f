/- The states of the run of the example. -/
import Derived.Test.YtjancmjkjgpfpaaGreatDoorVG
import Derived.Test.YtjancmjkjgpfpaaGreatDoorVE
set_option linter.all false
set_option maxRecDepth 100000
namespace Go.A.vA
abbrev u(n:Int):Value:= .int .u64 n
abbrev v(n:Int):Value:= .int .u8 n
abbrev w(n:Int):Value:= .int .i64 n
abbrev p(n:Nat):Value:= .pointer (some ⟨n,0,none⟩)
abbrev o:Value:= .int .u64 0
def e0:Env:=[]
def h0:Heap:=⟨[(0, .cells [(v 0),(v 1),(v 56),(v 2),(v 57),(v 49),(v 28),(v 3),(v 61),(v 58),(v 42),(v 50),(v 38),(v 29),(v 17),(v 4),(v 62),(v 47),(v 59),(v 36),(v 45),(v 43),(v 51),(v 22),(v 53),(v 39),(v 33),(v 30),(v 24),(v 18),(v 12),(v 5),(v 63),(v 55),(v 48),(v 27),(v 60),(v 41),(v 37),(v 16),(v 46),(v 35),(v 44),(v 21),(v 52),(v 32),(v 23),(v 11),(v 54),(v 26),(v 40),(v 15),(v 34),(v 20),(v 31),(v 10),(v 25),(v 14),(v 19),(v 9),(v 13),(v 8),(v 7),(v 6)] false 1)],1000,[]⟩
def e1:Env:=[]
def h1:Heap:=⟨h0.cE,1000,[]⟩
def e2:Env:=[(1,(p 1002)),(2,(.slice (some ⟨1001,0,none⟩) 3 3))]
def h2:Heap:=⟨eD [(1002, .cells [(u 7),o,o,o,o,o,o,o,(u 460039),o,o,o,o,o,o,o] true 1),(1001, .cells [(u 256),o,o,o,o,o,o,o,(w 2),(u 1024),o,o,o,o,o,o,o,(w 3),(u 1280),o,o,o,o,o,o,o,(w 4)] true 9),(1000, .cells [(u 7),o,o,o,o,o,o,o,(u 460039),o,o,o,o,o,o,o] true 1)] h1.cE,1003,[]⟩
def e3:Env:=[(1,(p 1002)),(3,(w 5)),(4,(w 0))]
def h3:Heap:=⟨eD [(1003, .cells [(u 263),o,o,o,o,o,o,o] true 8)] h2.cE,1004,[]⟩
def e4:Env:=[(3,(w 5)),(4,(w 0)),(5,(v 3)),(6,(w 0))]
def h4:Heap:=⟨h3.cE,1004,[]⟩
def e5:Env:=[(0,(.bool true))]
def h5:Heap:=⟨h4.cE,1004,[]⟩
def e6:Env:=[(0,(.bool true))]
def h6:Heap:=⟨h5.cE,1004,[]⟩
def c0:aR:=codeOf Pk.f70
def c1:aR:=cR c0
def c2:aR:=cR c1
def c3:aR:=cR c2
def c4:aR:=cR c3
def c5:aR:=cR c4
end Go.A.vA
