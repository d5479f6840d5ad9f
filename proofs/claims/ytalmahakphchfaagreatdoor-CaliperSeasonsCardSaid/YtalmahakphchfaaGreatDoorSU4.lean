/- Walks of functions, plain laws, the table. -/
import Derived.Test.YtalmahakphchfaaGreatDoorSU3
import Derived.Test.YtalmahakphchfaaGreatDoorSF
import Derived.Test.YtalmahakphchfaaGreatDoorSU2
import Derived.Test.YtalmahakphchfaaGreatDoorSD
set_option linter.all false
section
set_option maxRecDepth 100000
namespace Go.A.Pk
variable {T:Nat→Option af}
theorem ints_at{l:List Int}{i:Nat}{x:Int}(h:l[i]? =some x):(ints l)[i]? =some (.int .i64 x):=by simp[ints,h]
def z8:List Nat:=[0,0,0,0,0,0,0,0]
end Go.A.Pk
end
section
set_option maxRecDepth 100000
namespace Go.A.Pk
def InC(s:List Nat)(x y z:Nat):Prop:=(x:Int)≤7-(j6 s).1.hi.x∧(y:Int)≤7-(j6 s).1.hi.y∧(z:Int)≤7-(j6 s).1.hi.z
def Qw(a:List Nat)(im:List (List Nat))(p:List Nat):Prop:=∃s∈im,∃x y z:Nat,InC s x y z∧ux (shC x y z) s=p∧sIn p a=true
structure PlI (a:List Nat) (im:List (List Nat)) (i z y x:Nat) (l:List (List Nat)):Prop where
 ok:∀p∈l,IsS p
 pw:l.Pairwise SLt
 sound:∀p∈l,Qw a im p
 comp:∀j s,im[j]? =some s→∀x' y' z':Nat,InC s x' y' z'→(j<i∨j=i∧(z'<z∨z'=z∧(y'<y∨y'=y∧x'<x)))→sIn (ux (shC x' y' z') s) a=true→ux (shC x' y' z') s∈l
end Go.A.Pk
end
section
set_option maxRecDepth 100000
namespace Go.A.Pk
variable {T:Nat→Option af}
theorem cA.Kn{h h':Heap}{sz n:Nat}{v:Value}{cs:List Value}(s:cA h sz v n cs)(hn:h.next≤h'.next)(ha:∀z,z<h.next→h'.get z=h.get z):cA h' sz v n cs:=by
 cases s with
 |nil=>exact .nil
 |mem s hc=>
  obtain⟨vs,own,t,g1,g2⟩:=s.obj
  exact .mem ⟨Nat.lt_of_lt_of_le s.lt hn,⟨vs,own,t,(ha _ s.lt).trans g1,g2⟩,s.len⟩ hc
end Go.A.Pk
end
