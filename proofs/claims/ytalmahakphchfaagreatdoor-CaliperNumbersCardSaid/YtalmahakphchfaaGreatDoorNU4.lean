/- Walks of functions, plain laws, the table. -/
import Derived.Test.YtalmahakphchfaaGreatDoorNU3
import Derived.Test.YtalmahakphchfaaGreatDoorND
import Derived.Test.YtalmahakphchfaaGreatDoorNF
import Derived.Test.YtalmahakphchfaaGreatDoorNU2
set_option linter.all false
set_option maxRecDepth 100000
section
namespace Go.A.Pk
variable {T:Nat->Option af}
theorem ints_at{l:List Int}{i:Nat}{x:Int}(h:l[i]? =some x):(ints l)[i]? =some (.int .i64 x):=by simp[ints,h]
def z8:List Nat:=[0,0,0,0,0,0,0,0]
end Go.A.Pk
end
section
namespace Go.A.Pk
def InC(s:List Nat)(x y z:Nat):Prop:=(x:Int)<=7-(dB s).1.hi.x/\(y:Int)<=7-(dB s).1.hi.y/\(z:Int)<=7-(dB s).1.hi.z
def TG(a:List Nat)(im:List (List Nat))(p:List Nat):Prop:=∃s∈im,∃x y z:Nat,InC s x y z/\kT (shC x y z) s=p/\sIn p a=true
structure PlI (a:List Nat) (im:List (List Nat)) (i z y x:Nat) (l:List (List Nat)):Prop where
 ok:∀p∈l,IsS p
 pw:l.Pairwise SLt
 sound:∀p∈l,TG a im p
 comp:∀j s,im[j]? =some s->∀x' y' z':Nat,InC s x' y' z'→(j<i∨j=i/\(z'<z∨z'=z/\(y'<y∨y'=y/\x'<x)))->sIn (kT (shC x' y' z') s) a=true->kT (shC x' y' z') s∈l
end Go.A.Pk
end
section
namespace Go.A.Pk
variable {T:Nat->Option af}
theorem bS.Dh{h h':Heap}{sz n:Nat}{v:Value}{cs:List Value}(s:bS h sz v n cs)(hn:h.next<=h'.next)(ha:∀z,z<h.next->h'.get z=h.get z):bS h' sz v n cs:=by
 cases s with
 |nil=>exact .nil
 |mem s hc=>
  obtain⟨vs,own,t,g1,g2⟩:=s.obj;exact .mem ⟨Nat.lt_of_lt_of_le s.lt hn,⟨vs,own,t,(ha _ s.lt).trans g1,g2⟩,s.len⟩ hc
end Go.A.Pk
end
section
namespace Go.A.Pk
structure Ud (t:List Nat) (l:List Pb) (f:List Nat):Prop where
 len:f.length=l.length
 at':∀(i:Nat) (p:Pb) (k:Nat),l[i]? =some p->f[i]? =some k->k=0∨k=Rz t p
section
variable {w:List Nat×List Nat} (hw:IsW w) {t:List Nat} (ht:IsS t) (h1:Sub w.1 t) (h2:Sub t w.2) {l:List Pb} (hl:∀p∈l,IsS p.cells)
include hw ht h1 h2 hl
end
end Go.A.Pk
end
section
namespace Go.A.Pk
def mnF(g:Nat->Int)(L:List Nat)(c:Int):Int:=L.foldl (λn p=>min n (g p)) c
def QC(n:Nat)(f:List Nat):List Nat:=(List.range n).filter λp=>decide (f.getD p 0=0)
section
variable (w:List Nat×List Nat) (l:List Pb) (ns:List (List (List Nat)))
def MY(f:List Nat):Bool:=bsB w (l.zip f)&&ns.any λr=>decide (TH (l.zip f) (bsS w.1 (l.zip f)) r=3)
def Nk(p:Nat):Int:=(l.getD p ⟨s0,0⟩).cost
def O7:Nat->List Nat->Int
 |0,f=>if MY w l ns f then 100000 else 0
 |k+1,f=>if MY w l ns f then mnF (λp=>Nk l p+max (O7 k (f.set p 1)) (O7 k (f.set p 2))) (QC l.length f) 100000 else 0
def T5(f:List Nat):Int:=O7 w l ns l.length f
end
variable {w:List Nat×List Nat} {l:List Pb} {ns:List (List (List Nat))}
end Go.A.Pk
end
