/- Walks of functions, plain laws, the table. -/
import Derived.Test.YtalmahakphchfaaGreatDoorNU2
import Derived.Test.YtalmahakphchfaaGreatDoorNU1
import Derived.Test.YtalmahakphchfaaGreatDoorNF
import Derived.Shelf.SlSortCmp.NoneTotal
import Derived.Test.YtalmahakphchfaaGreatDoorProg
import Derived.Test.YtalmahakphchfaaGreatDoorNH
import Derived.KernelRfl
import Derived.Test.YtalmahakphchfaaGreatDoorND
set_option linter.all false
set_option maxRecDepth 100000
section
namespace Go.A.Pk
variable {T:Nat->Option af}
inductive OwE (lo:Nat) (h:Heap) (sz:Nat):Value->Nat->List Value->Prop
 |own {v n cs}:Own lo h sz v n cs->OwE lo h sz v n cs
 |lit {b}:lo<=b->b<h.next->h.get b=some (.cells [] true sz)->OwE lo h sz (.slice (some ⟨b,0,none⟩) 0 0) 0 []
end Go.A.Pk
end
section
namespace Go.A.Pk
variable {T:Nat->Option af}
section
open I
end
structure PPl (l q:Nat) (H0:Heap) (L:bO) (done:List Fi) (H:Heap):Prop where
 old:∀z,z<l->z≠q->H.get z=H0.get z
 loop:H.get l=some L
 nx:l<H.next
 val:∃v,H.get q=some (.cells [v] true 1)/\Own (l+1) H 8 v (done.map (·.s)).length (ssL (done.map (·.s)))
 few:done.length<=100000
structure Pb where
 cells:List Nat
 cost:Int
def pbL(p:Pb):List Value:=us p.cells++[.int .i64 p.cost]
def TT(l:List Pb):List Value:=l.flatMap pbL
structure Ue (vs:List Value) (o:Nat) (p:Pb):Prop where
 all:bB 9 (bA o vs)=pbL p
 cells:bB 8 (bA (o+0) vs)=us p.cells
 cost:aT vs (o+8)=some (.int .i64 p.cost)
structure PbS (h:Heap) (v:Value) (l:List Pb):Prop where
 sl:bS h 9 v l.length (TT l)
 ok:∀p∈l,IsS p.cells
def fL(f:List Nat):List Value:=f.map λk=> .int .u8 (k:Nat)
def fV(f:List Nat):Value:= .agg (fL f).toArray
def quL(w:List Nat×List Nat)(pv nv ov mv:Value):List Value:=wL w++[pv,nv,ov,mv]
abbrev Zs:=List (Pb×Nat)
def alB(z:Zs)(s:List Nat):Bool:=z.all λx=> !(decide (x.2=2)&&sIn x.1.cells s)
def bsJ(s:List Nat)(x:Pb×Nat):List Nat:=if x.2=1 then M3 s x.1.cells else s
def bsS(s:List Nat)(z:Zs):List Nat:=z.foldl bsJ s
def bsB(w:List Nat×List Nat)(z:Zs):Bool:=sIn (bsS w.1 z) w.2&&alB z (bsS w.1 z)
structure NdS (h:Heap) (nv:Value) (ns:List (List (List Nat))):Prop where
 ex:∃vals:List Value,bS h 1 nv ns.length vals/\∀(i:Nat) (r:List (List Nat)),ns[i]? =some r->∃v,vals[i]? =some v/\SsQ h v r
def TH(z:Zs)(s:List Nat)(r:List (List Nat)):Nat:=if r.any (λn=>sIn n s)then 1 else if r.any (λn=>alB z (M3 s n))then 3 else 2
end Go.A.Pk
end
section
namespace Go.A.Pk
open Go Go.Proofs Go.Sort
abbrev Sol:={l:List Nat // IsS l}
instance:Inhabited Sol:=⟨⟨s0,om⟩⟩
end Go.A.Pk
end
section
namespace Go.A.Pk
open Go.Sort Go.Proofs
def SLt(a b:List Nat):Prop:=cmpL a b<0
end Go.A.Pk
end
section
namespace Go.A.Pk
def Rz(t:List Nat)(p:Pb):Nat:=if sIn p.cells t then 1 else 2
end Go.A.Pk
end
