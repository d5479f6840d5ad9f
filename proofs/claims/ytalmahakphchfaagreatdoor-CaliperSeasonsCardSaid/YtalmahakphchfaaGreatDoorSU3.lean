/- Walks of functions, plain laws, the table. -/
import Derived.Test.YtalmahakphchfaaGreatDoorSU2
import Derived.Test.YtalmahakphchfaaGreatDoorSU1
import Derived.Test.YtalmahakphchfaaGreatDoorSF
import Derived.Shelf.SlSortCmp.NoneTotal
import Derived.Test.YtalmahakphchfaaGreatDoorProg
import Derived.Test.YtalmahakphchfaaGreatDoorSH
import Derived.KernelRfl
import Derived.Test.YtalmahakphchfaaGreatDoorSD
set_option linter.all false
section
set_option maxRecDepth 100000
namespace Go.A.Pk
variable {T:Nat→Option af}
inductive OwE (lo:Nat) (h:Heap) (sz:Nat):Value→Nat→List Value→Prop
 |own {v n cs}:Own lo h sz v n cs→OwE lo h sz v n cs
 |lit {b}:lo≤b→b<h.next→h.get b=some (.cells [] true sz)→OwE lo h sz (.slice (some ⟨b,0,none⟩) 0 0) 0 []
section
variable {base:Nat} {rnd:Option Nat} {Q:XQ} {e:Env} {ds:Dfs} {h:Heap} {dst:Option Nat} {os:List bB} {x y:Operand} {v u:Value} {lo sz n i:Nat} {cs:List Value} {k:IntKind}
end
end Go.A.Pk
end
section
set_option maxRecDepth 100000
namespace Go.A.Pk
variable {T:Nat→Option af}
section
open I
end
structure PPl (l q:Nat) (H0:Heap) (L:bK) (done:List Fi) (H:Heap):Prop where
 old:∀z,z<l→z≠q→H.get z=H0.get z
 loop:H.get l=some L
 nx:l<H.next
 val:∃v,H.get q=some (.cells [v] true 1)∧Own (l+1) H 8 v (done.map (·.s)).length (ssL (done.map (·.s)))
 few:done.length≤100000
theorem Cx(hp:bI T)(hf:T 9=some f32)(hf1:T 33=some f118)(hf2:T 34=some f119){h:Heap}(hr:Rdy h){w:List Nat×List Nat}(hw:IsW w){s:List Nat}(hs:IsS s):Pu T 9 [wV w,sv s] h (sv (mI w.1 (kP s w.2))):=by
 refine .of hp hf hr (iA _) ?_
 have hwc:cellsOf (wV w)=wL w:=by show(wL w).toArray.toList=_;simp
 have g0:(((h.push (.cells (cellsOf (wV w)) true 1)).push (.cells (cellsOf (sv s)) true 1)).push (.cells (aW 8 (.int .u64 0)) true 1)).get h.next=some (.cells (wL w) true 1):=by
  rw[hwc,z4 (by show h.next<h.next+2;omega),z4 (Nat.lt_succ_self _)];exact z3 h _
 have g1:(((h.push (.cells (cellsOf (wV w)) true 1)).push (.cells (cellsOf (sv s)) true 1)).push (.cells (aW 8 (.int .u64 0)) true 1)).get (h.next+1)=some (.cells (us s) true 1):=by(simp(disch:=first|omega|(simp only[z1,z2];omega)|(simp only[z1,z2];done)|fail)only[Go.A.z8,z4,z5,z9,z7,z1,z2,g0];exact rfl)
 have g2:(((h.push (.cells (cellsOf (wV w)) true 1)).push (.cells (cellsOf (sv s)) true 1)).push (.cells (aW 8 (.int .u64 0)) true 1)).get (h.next+2)=some (.cells (us s0) true 1):=by(simp(disch:=first|omega|(simp only[z1,z2];omega)|(simp only[z1,z2];done)|fail)only[Go.A.z8,z4,z5,z9,z7,z1,z2,g0,g1];exact rfl)
 have n0:(((h.push (.cells (cellsOf (wV w)) true 1)).push (.cells (cellsOf (sv s)) true 1)).push (.cells (aW 8 (.int .u64 0)) true 1)).next=h.next+3:=rfl
 have x0:Ext h (((h.push (.cells (cellsOf (wV w)) true 1)).push (.cells (cellsOf (sv s)) true 1)).push (.cells (aW 8 (.int .u64 0)) true 1)):=(((Ext.refl h).push _).push _).push _
 refine y4 ?_;refine yB ?_;refine yB ?_;refine ah (cZ) ?_;refine y3 ?_
 generalize(((h.push (.cells (cellsOf (wV w)) true 1)).push (.cells (cellsOf (sv s)) true 1)).push (.cells (aW 8 (.int .u64 0)) true 1))=H at*
 have W:=x0.wf hr.wf
 have hL:=x0.log.trans hr.log
 have wa:=Mz hw
 have wb:=JG hw
 have wka:=bU hw.a.len
 have wkb:=bU hw.b.len
 have k8:=bU hs.len
 have k9:=dh hs.len
 have C1:=GU hp hf2 (h:={H with log:=[]}) (.of W) hs hw.b
 have hmt:=hs.meet hw.b
 have C2:=GS hp hf1 (h:={H with log:=[]}) (.of W) hw.a hmt
 have hj:=hw.a.join hmt
 generalize kP s w.2=mt at*
 generalize mI w.1 mt=jn at*
 have kj:=bU hj.len
 have kj9:=dh hj.len
 have kjl:=hj.len
 refine an ?_;refine dn ?_;refine qF ?_;refine qV ?_
 refine qV ?_;refine qF ?_;refine qV ?_
 refine qC ?_
 refine FW.puD C1 (by(repeat apply aT rfl);apply aN rfl (aI rfl (dK (by exact rfl) (by assumption) (by assumption) (by assumption)) (by exact Cg _)) rfl;apply aN rfl (aI rfl (dV (by exact rfl)) (by exact dB _)) rfl;exact cO) ?_
 clear C1
 skip
 refine qC ?_
 refine FW.puD C2 (by(repeat apply aT rfl);exact cO) ?_
 clear C2
 refine zL rfl rfl rfl (by exact rfl) (by exact rfl) (by exact rfl) (by assumption) (by(simp only[aG];assumption)) (by exact rfl) (by exact cF _) (by(simp only[z1,z2];omega)) (by(simp only[z1,z2];omega)) (by exact cO) ?_;refine dH ?_
 refine y1 ?_;refine bH ?_;refine aM ?_
 refine aD ?_ (cW (own:=true) (s:=1) rfl ?_ kj9 kj rfl) rfl
 ·rw[Heap.aL (by show h.next≤h.next+2;omega)];exact hL
 ·(simp(disch:=first|omega|(simp only[z1,z2];omega))only[z3,z4,z5,z6,z7,z1,z2,g0,g1,g2];done)
structure Pb where
 cells:List Nat
 cost:Int
def pbL(p:Pb):List Value:=us p.cells++[.int .i64 p.cost]
def QG(l:List Pb):List Value:=l.flatMap pbL
structure QZ (vs:List Value) (o:Nat) (p:Pb):Prop where
 all:bT 9 (bS o vs)=pbL p
 cells:bT 8 (bS (o+0) vs)=us p.cells
 cost:bD vs (o+8)=some (.int .i64 p.cost)
structure PbS (h:Heap) (v:Value) (l:List Pb):Prop where
 sl:cA h 9 v l.length (QG l)
 ok:∀p∈l,IsS p.cells
def fL(f:List Nat):List Value:=f.map fun k=> .int .u8 (k:Nat)
def fV(f:List Nat):Value:= .agg (fL f).toArray
def quL(w:List Nat×List Nat)(pv nv ov mv:Value):List Value:=wL w++[pv,nv,ov,mv]
abbrev Zs:=List (Pb×Nat)
def alB(z:Zs)(s:List Nat):Bool:=z.all fun x=> !(decide (x.2=2)&&sIn x.1.cells s)
def bsJ(s:List Nat)(x:Pb×Nat):List Nat:=if x.2=1 then mI s x.1.cells else s
def bsS(s:List Nat)(z:Zs):List Nat:=z.foldl bsJ s
def bsB(w:List Nat×List Nat)(z:Zs):Bool:=sIn (bsS w.1 z) w.2&&alB z (bsS w.1 z)
structure NdS (h:Heap) (nv:Value) (ns:List (List (List Nat))):Prop where
 ex:∃vals:List Value,cA h 1 nv ns.length vals∧∀(i:Nat) (r:List (List Nat)),ns[i]? =some r→∃v,vals[i]? =some v∧SsQ h v r
def Qx(z:Zs)(s:List Nat)(r:List (List Nat)):Nat:=if r.any (fun n=>sIn n s)then 1 else if r.any (fun n=>alB z (mI s n))then 3 else 2
end Go.A.Pk
end
section
set_option maxRecDepth 100000
namespace Go.A.Pk
open Go Go.Proofs Go.Sort
abbrev Sol:={l:List Nat // IsS l}
instance:Inhabited Sol:=⟨⟨s0,lK⟩⟩
end Go.A.Pk
end
section
set_option maxRecDepth 100000
namespace Go.A.Pk
open Go.Sort Go.Proofs
def SLt(a b:List Nat):Prop:=cmpL a b<0
end Go.A.Pk
end
section
set_option maxRecDepth 100000
namespace Go.A.Pk
variable {T:Nat→Option af}
def KJ(w:List Nat×List Nat)(s:List Nat):List Nat:=mI w.1 (kP s w.2)
theorem xO{w:List Nat×List Nat}(hw:IsW w){s:List Nat}(hs:IsS s)(hin:sIn w.1 w.2=true):Sub w.1 (KJ w s)∧Sub (KJ w s) w.2:=by
 have h1:=(wY hw.a hw.b).1 hin
 unfold KJ
 refine⟨fun c hc=> ?_,fun c hc=> ?_⟩
 ·rw[vj hw.a (hs.meet hw.b),hc];rfl
 ·rw[vj hw.a (hs.meet hw.b),rj hs hw.b,Bool.or_eq_true,Bool.and_eq_true]at hc
  exact hc.elim (h1 c) fun q=>q.2
end Go.A.Pk
end
section
set_option maxRecDepth 100000
namespace Go.A.Pk
def OQ(t:List Nat)(p:Pb):Nat:=if sIn p.cells t then 1 else 2
end Go.A.Pk
end
