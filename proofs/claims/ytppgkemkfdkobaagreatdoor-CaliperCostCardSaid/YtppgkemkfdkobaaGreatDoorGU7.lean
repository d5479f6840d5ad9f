/- Walks of functions, plain laws, the table. -/
import Derived.Test.YtppgkemkfdkobaaGreatDoorGU4
import Derived.Test.YtppgkemkfdkobaaGreatDoorGU5
import Derived.Test.YtppgkemkfdkobaaGreatDoorGF
import Derived.Test.YtppgkemkfdkobaaGreatDoorGD
import Derived.Test.YtppgkemkfdkobaaGreatDoorGU6
import Derived.Test.YtppgkemkfdkobaaGreatDoorGU3
import Derived.Test.YtppgkemkfdkobaaGreatDoorGU0
import Derived.Test.YtppgkemkfdkobaaGreatDoorGH
import Derived.Test.YtppgkemkfdkobaaGreatDoorGT
import Derived.KernelRfl
set_option linter.all false
set_option maxHeartbeats 16000000
set_option maxRecDepth 100000
section
namespace Go.A.Pk
variable {T:Nat->Option aq}
def sY{f:Nat}{a c:Array Value}(h1:j7 a.toList a.toList=true)(b:j7 c.toList c.toList=true):jj (.func (.func f) a c) (.func (.func f) a c)=true:=by
 simp only[jj,h1,b];simp
def cmZ(a b:Int):Int:=if a<b then -1 else if b<a then 1 else 0
structure AZ (T:Nat->Option aq):Prop where
 va:Is T
 f148:T 32=some f148
 f150:T 34=some f150
 f151:T 35=some f151
 f152:T 36=some f152
 f229:T 80=some f229
variable{h:Heap}
def Oi(F:AZ T)(hr:Rdy h)(k:Int):Pu T 80 [zc k] h (.bool false):=by
 refine .of F.va.op.qu.p F.f229 hr rfl ?_;have m:zB k k false:=uv rfl;refine Y10 ?_;exact an hr.log rfl rfl
def Ru(F:AZ T)(hr:Rdy h)(a b:Int):Pu T 36 [zc a, zc b] h (zc (cmZ a b)):=by
 refine .of F.va.op.qu.p F.f152 hr rfl ?_;have c:=Oi F (h:=η h) (.of hr.wf) a;have d:=Oi F (h:=η h) (.of hr.wf) b;unfold cmZ;by_cases h1:a<b
 ·have e:zd a b true:=dz h1;rw[if_pos h1];refine Y6 ?_;refine FW.pu c ?_;refine Y5 ?_;refine FW.pu d ?_;refine Y28 ?_;exact an hr.log rfl rfl
 ·have e:zd a b false:=dG ω;rw[if_neg h1];by_cases h2:b<a
  ·have f:zs a b true:=fh h2;rw[if_pos h2];refine Y6 ?_;refine FW.pu c ?_;refine Y5 ?_;refine FW.pu d ?_;refine Y37 ?_;exact an hr.log rfl rfl
  ·have f:zs a b false:=gT ω;rw[if_neg h2];refine Y6 ?_;refine FW.pu c ?_;refine Y5 ?_;refine FW.pu d ?_;refine Y38 ?_;exact an hr.log rfl rfl
def vfV(q:Nat):Value:= .func (.func 26) #[sb q] #[]
def UL(m:Nat)(w:List Nat×List Nat)(l:List Pb)(ns:List (List (List Nat)))(u:Value)(v:Value)(h':Heap):Prop:=v=u/\∃mm,h'.get m=some (.map (kM mm))/\nw w l ns mm
variable{b1 b2 b3 m q:Nat}{w:List Nat×List Nat}{nv ov pv:Value}{l:List Pb}{os:List (List Nat)}{ns:List (List (List Nat))}{f:List Nat}
def Gt(F:AZ T)(hr:Rdy h)(A:∀p∈l,1<=p.cost/\p.cost<=1000)(d:QuH h q m w pv nv ov l os ns)(s:f.length=8){p:Nat}
 (t:h.get b1=some (qt [sb q]))(r:h.get b2=some (qt [vfV q]))(u:h.get b3=some (qt (fL f)))(V:p<l.length):
 Gs T 32 [zc (p:Nat), sb b1, sb b2, sb b3] h (λz=>z=m) (UL m w l ns (zc (eV w l ns f p))):=by
 obtain⟨cJ,c,aw⟩:=d.mem;have km:=hr.wf.dJ c;refine Gs.of F.va.op.qu.p F.f148 (λv h1 h2 _ hn ha ⟨e,mm,g,hm⟩=>⟨e,mm,(ha m km).trans g,hm⟩) ?_;have k1:=hr.wf.dJ t;have k2:=hr.wf.dJ r;have k3:=hr.wf.dJ u;have kq:=hr.wf.dJ d.gq;have C:b1≠m:=λe=>by rw[e,c]at t;cases t
 have D:b2≠m:=λe=>by rw[e,c]at r;cases r
 have E:b3≠m:=λe=>by rw[e,c]at u;cases u
 obtain⟨x,Y⟩:∃x,l[p]? =some x:=⟨l[p],bx V⟩;have be:=d.hl;have B:p<8:=ω
 obtain⟨b,o,cp,vs,cX,tt,W,K,O,M⟩:=d.sp.elem Y;subst W;have j:=Bp Y;have ba:=A x (ci Y);have kc:=M.cost;have hw:=d.hw;have gq:=d.gq;have kp:=xz hw (.slice (some ⟨b,o,none⟩) l.length cp) nv ov (.map (some m));have bo:=nH s;have cd:=kJ s;have v1:=gr (w:=w) (ns:=ns) (hc0 A) (f.set p 1);have v2:=gr (w:=w) (ns:=ns) (hc0 A) (f.set p 2);have X:eV w l ns f p=x.cost+mx (bB w l ns (f.set p 1)) (bB w l ns (f.set p 2)):=by unfold eV;rw[j,Hl]
 have aE:zE x.cost (mx (bB w l ns (f.set p 1)) (bB w l ns (f.set p 2))) (x.cost+mx (bB w l ns (f.set p 1)) (bB w l ns (f.set p 2))):=by
  have:mx (bB w l ns (f.set p 1)) (bB w l ns (f.set p 2))<=100000/\0<=mx (bB w l ns (f.set p 1)) (bB w l ns (f.set p 2)):=by unfold mx;split<;>omega
  exact fK (aO ω ω)
 have C1:=rA F.va.op (h:=η h) (.of hr.wf) s B (a:=1);have I1:=nZ F.va A _ (h:=η h) (.of hr.wf) (d.log []) (f:=f.set p 1) (by rw[hG];exact s) (bl _);unfold vfV at r;rw[X];refine Y20 ?_;refine FW.puD C1 (by apply au rfl (ah rfl (dM ρ) (by exact dh _ _)) rfl;apply au rfl (ah rfl (bW ρ τ τ τ) (by exact AJ _)) rfl;apply au rfl (ah rfl (cw ρ τ ρ) (by refine sY ?_ ?_;refine cD (iZ _) ?_;exact iq;exact iq)) rfl;(repeat apply aB rfl);apply au rfl (ah rfl (cw ρ τ ρ) (by refine sY ?_ ?_;refine cD (iZ _) ?_;exact iq;exact iq)) rfl;apply au rfl (ah rfl (cw ρ τ τ) (by exact dh _ _)) rfl;apply au rfl (ah rfl (dL ρ) (by exact bh _)) rfl;apply au rfl (ah rfl (gU ρ ρ ω) (by exact bh _)) rfl;apply au rfl (ah rfl (dM ρ) (by exact dh _ _)) rfl;apply au rfl (ah rfl (cw ρ τ τ) (by exact dw _ _ _)) rfl;apply au rfl (ah rfl (dL ρ) (by exact bh _)) rfl;apply au rfl (ah rfl (iN ρ) (by exact bh _)) rfl;apply au rfl (ah rfl (cw ρ τ ρ) (by exact bh _)) rfl;exact aQ) ?_;clear C1;skip;refine qC ?_;refine FW.gsD I1 (λv h' lg q=>q) ?_;clear I1;rintro _ i lg L bj ⟨rfl,Z,y,S⟩;have nB:=L.next
 have H:∀z,z<h.next->z≠m->i.get z=h.get z:=λz n k=>L.old z n k
 have WB:=L.wf hr.wf;have QB:QuH i q m w (.slice (some ⟨b,o,none⟩) l.length cp) nv ov l os ns:=d.keep hr.wf nB H ⟨Z,y,S⟩;have c1:=(H b1 k1 C).trans t;have c2:=(H b2 k2 D).trans r;have c3:=(H b3 k3 E).trans u;have J:=QB.gq;have G:b≠m:=λe=>by rw[e,c]at K;cases K
 have cb:=(H b O G).trans K;have P:∀z∈i.log,z=m:=λz n=>(L.log z n).elim (λq=>by rw[hr.log]at q;cases q) id;have C2:=rA F.va.op (h:=η i) (.of WB) s B (a:=2);have I2:=nZ F.va A _ (h:=η i) (.of WB) (QB.log []) (f:=f.set p 2) (by rw[hG];exact s) (bl _);refine⟨_,by apply au rfl (ah rfl (dM ρ) (by exact dh _ _)) rfl;apply au rfl (ah rfl (bW ρ τ τ τ) (by exact AJ _)) rfl;apply au rfl (ah rfl (cw ρ τ ρ) (by refine sY ?_ ?_;refine cD (iZ _) ?_;exact iq;exact iq)) rfl;apply aB rfl;apply au rfl (ah rfl (cw ρ τ τ) (by exact dh _ _)) rfl;apply au rfl (ah rfl (dL ρ) (by exact bh _)) rfl;apply au rfl (ah rfl (gU ρ ρ ω) (by exact bh _)) rfl;apply au rfl (ah rfl (dM ρ) (by exact dh _ _)) rfl;apply au rfl (ah rfl (cw ρ τ τ) (by exact dw _ _ _)) rfl;apply au rfl (ah rfl (dL ρ) (by exact bh _)) rfl;apply au rfl (ah rfl (iN ρ) (by exact bh _)) rfl;apply au rfl (ah rfl (cw ρ τ ρ) (by exact bh _)) rfl;exact aQ,?_⟩;clear t r u gq K;skip;refine qC ?_;refine FW.puD C2 (by(repeat apply aB rfl);apply au rfl (ah rfl (cw ρ τ ρ) (by refine sY ?_ ?_;refine cD (iZ _) ?_;exact iq;exact iq)) rfl;apply au rfl (ah rfl (cw ρ τ τ) (by exact dh _ _)) rfl;apply au rfl (ah rfl (dL ρ) (by exact bh _)) rfl;apply au rfl (ah rfl (gU ρ ρ ω) (by exact bh _)) rfl;apply au rfl (ah rfl (dM ρ) (by exact dh _ _)) rfl;apply au rfl (ah rfl (cw ρ τ τ) (by exact dw _ _ _)) rfl;apply au rfl (ah rfl (dL ρ) (by exact bh _)) rfl;apply au rfl (ah rfl (iN ρ) (by exact bh _)) rfl;apply au rfl (ah rfl (cw ρ τ ρ) (by exact bh _)) rfl;exact aQ) ?_;clear C2;skip;refine qC ?_;refine FW.gsD I2 (λv h' lg q=>q) ?_;clear I2;rintro _ hC cj xC ar ⟨rfl,ae,N,U⟩;have I:∀z,z<i.next->z≠m->hC.get z=i.get z:=λz n k=>xC.old z n k
 have d1:=(I b1 ω C).trans c1;have d2:=(I b2 ω D).trans c2;have d3:=(I b3 ω E).trans c3;have dq:=(I q ω (λe=>by rw[e,y]at J;cases J)).trans J;have db:=(I b ω G).trans cb;have Q:∀z∈hC.log,z=m:=λz n=>(xC.log z n).elim (P z) id;refine⟨_,by apply aB rfl;apply au rfl (ah rfl (cw ρ τ τ) (by exact dh _ _)) rfl;apply au rfl (ah rfl (dL ρ) (by exact bh _)) rfl;apply au rfl (ah rfl (gU ρ ρ ω) (by exact bh _)) rfl;apply au rfl (ah rfl (dM ρ) (by exact dh _ _)) rfl;apply au rfl (ah rfl (cw ρ τ τ) (by exact dw _ _ _)) rfl;apply au rfl (ah rfl (dL ρ) (by exact bh _)) rfl;apply au rfl (ah rfl (iN ρ) (by exact bh _)) rfl;apply au rfl (ah rfl (cw ρ τ ρ) (by exact bh _)) rfl;exact aQ,?_⟩;clear c1 c2 c3 J cb;refine Y7 ?_;exact iO Q rfl ⟨rfl,ae,N,U⟩
def woV(b1 b2 b3:Nat):Value:= .func (.func 32) #[] #[sb b1, sb b2, sb b3]
variable{b9 x:Nat}
def Rt(F:AZ T)(hr:Rdy h){Z X Y:Value}(Q:∀p∈l,1<=p.cost/\p.cost<=1000)(r:QuH h q m w Z X Y l os ns)(S:f.length=8)
 (c:h.get b1=some (qt [sb q]))(d:h.get b2=some (qt [vfV q]))(i:h.get b3=some (qt (fL f)))(b:h.get b9=some (qt [woV b1 b2 b3])){y:Nat}(hx:x<l.length)(hy:y<l.length):
 Gs T 35 [zc (x:Nat), zc (y:Nat), sb b9] h (λz=>z=m) (UL m w l ns (zc (cmZ (eV w l ns f x) (eV w l ns f y)))):=by
 obtain⟨aw,a,V⟩:=r.mem;have km:=hr.wf.dJ a;refine Gs.of F.va.op.qu.p F.f151 (λv h1 h2 _ hn ha ⟨e,mm,g,hm⟩=>⟨e,mm,(ha m km).trans g,hm⟩) ?_;have k1:=hr.wf.dJ c;have k2:=hr.wf.dJ d;have k3:=hr.wf.dJ i;have k9:=hr.wf.dJ b;have I:b1≠m:=λe=>by rw[e,a]at c;cases c
 have J:b2≠m:=λe=>by rw[e,a]at d;cases d
 have K:b3≠m:=λe=>by rw[e,a]at i;cases i
 have L:b9≠m:=λe=>by rw[e,a]at b;cases b
 have M:=Gt F (h:=η h) (.of hr.wf) Q (r.log []) S c d i hx;unfold woV at b;generalize eV w l ns f x=u1 at*;refine Y10 ?_;refine FW.gsD M (λv h' W q=>q) ?_;clear M;rintro _ n W o ae ⟨rfl,G,s,B⟩;have nB:=o.next
 have k:∀z,z<h.next->z≠m->n.get z=h.get z:=λz j E=>o.old z j E
 have O:=o.wf hr.wf;have QB:QuH n q m w Z X Y l os ns:=r.keep hr.wf nB k ⟨G,s,B⟩;have c9:=(k b9 k9 L).trans b;have u:∀z∈n.log,z=m:=λz j=>(o.log z j).elim (λq=>by rw[hr.log]at q;cases q) id;have N:=Gt F (h:=η n) (.of O) Q (QB.log []) S ((k b1 k1 I).trans c) ((k b2 k2 J).trans d) ((k b3 k3 K).trans i) hy;generalize eV w l ns f y=u2 at*;refine⟨_,by apply au rfl (ah rfl (dM ρ) (by exact dh _ _)) rfl;apply au rfl (ah rfl (cw ρ τ ρ) (by refine sY ?_ ?_;exact iq;refine cD (iZ _) ?_;refine cD (iZ _) ?_;refine cD (iZ _) ?_;exact iq)) rfl;(repeat apply aB rfl);exact aQ,?_⟩;clear b;skip;refine qC ?_;refine FW.gsD N (λv h' W q=>q) ?_;clear N;rintro _ P ar xC U ⟨rfl,H,t,D⟩;have WC:=xC.wf O;have A:∀z∈P.log,z=m:=λz j=>(xC.log z j).elim (u z) id;have C:=Ru F (h:=η P) (.of WC) u1 u2;refine⟨_,by(repeat apply aB rfl);exact aQ,?_⟩;skip;refine qC ?_;refine FW.puD C (by exact aQ) ?_;refine Y5 ?_;exact iO A rfl ⟨rfl,H,t,D⟩
variable{L:List Nat}
def NO{g:Nat->Int}(h:L≠[]):gM g (L++[x])=if g x<g (gM g L)then x else gM g L:=by
 cases L with
 |nil=>exact absurd rfl h
 |cons y L=>
  show(L++[x]).foldl _ y=_;rw[yr];rfl
def Rr(a b:Int):cmZ a b<0↔a<b:=by
 unfold cmZ;split
 ·simp;omega
 ·split<;>simp<;>omega
def ND(F:AZ T)(hr:Rdy h)(hc:∀p∈l,1<=p.cost/\p.cost<=1000)(Qh:QuH h q m w pv nv ov l os ns)(hf:f.length=8)
 (J:h.get b1=some (qt [sb q]))(K:h.get b2=some (qt [vfV q]))(M:h.get b3=some (qt (fL f)))(N:h.get b9=some (qt [woV b1 b2 b3])){v:Value}(s:aH h 1 v L.length (ints (L.map Int.ofNat)))(hL:∀p∈L,p<l.length)(hn:L.length<1000000):
 Gs T 34 [v, .func (.func 35) #[] #[sb b9]] h (λz=>z=m) (UL m w l ns (.tuple #[zc (gM (eV w l ns f) L:Nat), .bool (decide (0<L.length))])):=by
 obtain⟨ar,d,E⟩:=Qh.mem;have km:=hr.wf.dJ d;refine Gs.of F.va.op.qu.p F.f150 (λv h1 h2 _ hn ha ⟨e,n,g,hm⟩=>⟨e,n,(ha m km).trans g,hm⟩) ?_;have k1:=hr.wf.dJ J;have k2:=hr.wf.dJ K;have k3:=hr.wf.dJ M;have k9:=hr.wf.dJ N;have aw:b1≠m:=λe=>by rw[e,d]at J;cases J
 have aE:b2≠m:=λe=>by rw[e,d]at K;cases K
 have ba:b3≠m:=λe=>by rw[e,d]at M;cases M
 have be:b9≠m:=λe=>by rw[e,d]at N;cases N
 obtain⟨a,c,rfl⟩:=s.form;refine Y14 ?_
 refine aY (λk e ds O=>∃i:Nat,i<=L.length/\L.length-i=k/\e=[(0, .slice a L.length c),(1, .func (.func 35) #[] #[sb b9]),(6, zc (gM (eV w l ns f) (L.take i):Nat)),(9, .slice a L.length c),(10, zc (L.length:Nat)),(11, zc (i:Nat))]/\ds=[]/\Ws (λz=>z=m) h O∧∃n,O.get m=some (.map (kM n))/\nw w l ns n)
  ⟨0,hK _,rfl,rfl,rfl,(Ext.refl h).ws,ar,d,E⟩ ?_
 rintro k e ds G ⟨i,hi,rfl,rfl,rfl,A,n,P,u⟩;have WG:=A.wf hr.wf;have nG:=A.next
 have D:∀z,z<h.next->z≠m->G.get z=h.get z:=λz I j=>A.old z I j
 have V:∀z∈G.log,z=m:=λz I=>(A.log z I).elim (λq=>by rw[hr.log]at q;cases q) id;by_cases hlt:i<L.length
 ·obtain⟨x,W⟩:∃x,L[i]? =some x:=⟨L[i],bx hlt⟩;have X:=hL x (ci W);obtain⟨b,o,c3,vs,cd,tt,hv,gl,Q,el⟩:=uc s (x:= zc (x:Nat)) (by unfold ints;rw[wt,wt,W];rfl);cases hv;have bj:=(D b Q (λe=>by rw[e,d]at gl;cases gl)).trans gl;have ae:zd i L.length true:=dz ω;have H:=eY W;rcases Nat.eq_zero_or_pos i with rfl|hpos
  ·have Z:zz ((0:Nat):Int) 0 true:=rfl;have B:gM (eV w l ns f) (L.take (0+1))=x:=by rw[H];rfl
   refine Y31 ?_;refine bA ?_;refine Y7 ?_;exact⟨L.length-(0+1),ω,0+1,ω,rfl,by rw[B],rfl,A,n,P,u⟩
  ·have Z:zz i 0 false:=jH ω;have j:L.take i≠[]:=λe=>by
    have I:(L.take i).length=0:=by rw[e];rfl
    rw[lp]at I;omega
   have B:gM (eV w l ns f) (L.take (i+1))=if eV w l ns f x<eV w l ns f (gM (eV w l ns f) (L.take i))then x else gM (eV w l ns f) (L.take i):=by rw[H];exact NO j
   have S:gM (eV w l ns f) (L.take i)<l.length:=hL _ (yn (I6 j));have QG:QuH G q m w pv nv ov l os ns:=Qh.keep hr.wf nG D ⟨n,P,u⟩;have C:=Rt F (h:=η G) (.of WG) hc (QG.log []) hf ((D b1 k1 aw).trans J) ((D b2 k2 aE).trans K) ((D b3 k3 ba).trans M) ((D b9 k9 be).trans N) X S;generalize hbb:gM (eV w l ns f) (L.take i)=bst at*;have U:=Rr (eV w l ns f x) (eV w l ns f bst);generalize cmZ (eV w l ns f x) (eV w l ns f bst)=cc at*;by_cases hlt2:eV w l ns f x<eV w l ns f bst
   ·have Y:zd cc 0 true:=dz (U.2 hlt2);rw[if_pos hlt2]at B;refine Y28 ?_;refine FW.gs C (λv O m q=>q) ?_;rintro _ h5 x5 ⟨rfl,y,r,t⟩;refine Y8 ?_;refine bA ?_;refine Y7 ?_;exact⟨L.length-(i+1),ω,i+1,ω,rfl,by rw[B],rfl,A.trans x5,y,r,t⟩
   ·have Y:zd cc 0 false:=dG ω;rw[if_neg hlt2]at B;refine Y28 ?_;refine FW.gs C (λv O m q=>q) ?_;rintro _ h5 x5 ⟨rfl,y,r,t⟩;refine Y12 ?_;exact⟨L.length-(i+1),ω,i+1,ω,rfl,by rw[B],rfl,A.trans x5,y,r,t⟩
 ·obtain rfl:i=L.length:=ω
  have ae:zd L.length L.length false:=dG ω;rw[wd];have bo:af .gtr (zc (L.length:Nat)) (zc 0)=some (.bool (decide (0<L.length))):=by
   rw[NR];congr 2;exact decide_eq_decide.2 ω
  refine Y19 ?_;exact iO V rfl ⟨rfl,n,P,u⟩
end Go.A.Pk
end
section
namespace Go.A.Pk
variable {T:Nat->Option aq}
def Fo(f:List Nat){n:Nat}:∀m,∃r,bM (n+m) f=bM n f++r
 |0=>⟨[],by simp⟩
 |m+1=>by
  obtain⟨r,e⟩:=Fo f (n:=n) m;exact⟨r++(if f.getD (n+m) 0=0 then [n+m]else []),by rw[←Nat.add_assoc,pO,e,At]⟩
def NF(F:yg T){h:Heap}(hr:Rdy h){q m:Nat}{w:List Nat×List Nat}{Z M O:Value}{l:List Pb}{os:List (List Nat)}{ns:List (List (List Nat))}(u:QuH h q m w Z M O l os ns){f:List Nat}(hf:f.length=8){b1 b2:Nat}(g1:h.get b1=some (qt [sb q]))
 {lo N z qb:Nat}{P:List Nat->Heap->Prop}(Y:JI T lo N z qb (λp=> zc ((p:Nat):Int)) (bM l.length f) P)(W:N<=h.next)(D:lo<=h.next)(B:∀d H,P d H->H.get b2=some (qt (fL f)))(A:P [] h):
 Gr T 79 [.func (.yield z) #[] #[], sb b1, sb b2] h lo λv j=>v= .tuple #[]/\P (bM l.length f) j:=by
 have t:qb<h.next:=m6 Y.hq W
 refine Gr.ofK F.qu.p F.f228 D (λv h1 V p=>RT Y t V hr.log p) ?_;obtain⟨a,c,rfl⟩:=u.sp.form;have gq:=u.gq;have kp:=xz u.hw (.slice a l.length c) M O (.map (some m));have X:=u.hl;refine Y9 ?_
 refine aY (λk e ds j=>∃i:Nat,i<=l.length/\k=l.length-i/\e=[(0, .func (.yield z) #[] #[]),(2, sb b2),(9, zc (l.length:Nat)),(10, zc (i:Nat))]/\ds=[]/\Lk lo h j∧P (bM i f) j∧(j=h∨qb∈j.log/\jJ j qb))
  ⟨0,hK _,rfl,rfl,rfl, .refl _ _,A, .inl rfl⟩ ?_
 rintro k e ds G ⟨i,hi,rfl,rfl,rfl,o,r,J⟩;have S:=o.wf hr.wf;have U:=B _ _ r;by_cases hlt:i<l.length
 ·obtain⟨y,K⟩:∃y,f[i]? =some y:=⟨f[i]' ω,bx _⟩;have kf:=Cz K;have C:f.getD i 0=y:=by rw[dn,K];rfl
  have I:zd i l.length true:=dz ω;have L:af .eql (.int .u8 (y:Nat)) (.int .u8 0)=some (.bool (decide (y=0))):=tZ (c:=0) rfl;have b:=pO i f;rw[C]at b;by_cases hy0:y=0
  ·rw[decide_eq_true hy0]at L;rw[if_pos hy0]at b;obtain⟨Q,g⟩:=Fo f (n:=i+1) (l.length-(i+1));rw[show i+1+(l.length-(i+1))=l.length by omega,b,At]at g;refine Y24 ?_;refine oK (fn:= .yield z) (args:=[zc (i:Nat)]) ρ ?_;refine Y.call F.qu.p (x:=i) g S (by have:=o.next;omega) (by have:=o.next;omega) t r ?_;intro G2 x2 E s;rw[←b]at s;refine Y12 ?_;exact⟨l.length-(i+1),ω,i+1,ω,rfl,rfl,rfl,o.trans x2,s, .inr E⟩
  ·rw[decide_eq_false hy0]at L;rw[if_neg hy0,wl]at b;rw[←b]at r;refine Y33 ?_;exact⟨l.length-(i+1),ω,i+1,ω,rfl,rfl,rfl,o,r,J⟩
 ·obtain rfl:i=l.length:=ω
  have I:zd l.length l.length false:=dG ω;refine Y9 ?_;exact ER (o.log (by rw[hr.log];exact fD.nil _)) rfl ⟨rfl,r,J⟩
section
open I
def JO:aZ:=(I.R [M 8 22] [7,8])
def JS:aZ:=(.block 1 (I.R [L 23 7,M 24 8,g 25 (.dy [O] 1 [(0,1,(t 24))]),g 26 (.append 1 8 (t 23) (t 25)),S 1 7 26] []))
end
def bE(v1 v2 v3 v4 v5:Value)(q:Nat)(fv:Value):Env:=[(1,v1),(2,v2),(3,v3),(4,v4),(5,v5),(7, sb q),(21,fv)]
def tV(ds:List Nat):List Value:=ints (ds.map Int.ofNat)
def GX(a:List Nat)(p:Nat):tV (a++[p])=tV a++[zc ((p:Nat):Int)]:=by simp[tV,ints]
variable{lo:Nat}{v:Value}
def JM(Y:aK T){H:Heap}(hr:Rdy H){q l lo2 p:Nat}{J K L M N F:Value}{a:List Nat}(X:a.length<1000000)(w:lo<=q)
 (gl:H.get l=some (.loop (bE J K L M N q F) [22] JO JS 0 .normal))
 (n:H.get q=some (qt [v]))(own:Own lo2 H 1 v a.length (tV a))(i:lo<=lo2)(Z:q<lo2)(W:l<lo2)(V:lo2<=H.next):
 FW T (.yield l) [zc (p:Nat)] H λr c=>r= .ret (.bool true)/\(∀z∈c.log,lo<=z)/\q∈c.log/\∃v',c.get q=some (qt [v'])/\dQ [v']=false/\Own lo2 c 1 v' (a++[p]).length (tV (a++[p]))/\(∀z,z<lo2->z≠q->c.get z=H.get z)/\WF c∧H.next<=c.next:=by
 have j:q≠l:=λe=>by subst e;rw[n]at gl;cases gl
 have G:=hr.wf.dJ n;have kl:=hr.wf.dJ gl;refine FW.QS Y (q:=q) (R:=λc=>∃v',c.get q=some (qt [v'])/\dQ [v']=false/\Own lo2 c 1 v' (a++[p]).length (tV (a++[p]))/\(∀z,z<lo2->z≠q->c.get z=H.get z)/\WF c∧H.next<=c.next) gl rfl kl G j ?_;unfold JO bE;refine Y2 ?_;refine bA ?_;refine y1 ?_;refine⟨rfl,gl,?_⟩;unfold JS;refine oe ?_;refine WE.E4 ?_;intro b d;have s:∀z,z<H.next->z≠l->H.get z=b.get z:=λz f x=>by rw[d];exact(z5 x).symm
 have B:b.get l=some (.loop (bE J K L M N q F) [22] JO JS 1 .normal):=by rw[d];exact Heap.aM gl
 have A5:b.next=H.next:=by rw[d];rfl
 have O:b.log=[]:=by rw[d,Heap.aA ω];exact hr.log
 have P:WF b:=by rw[d];exact hr.wf.as (AS.wr _ _ _ _)
 clear d;have C:=(s q G j).symm.trans n;have m:Own lo2 b 1 v a.length (tV a):=own.keep ω λz f y=>(s z y ω).symm;clear n;refine Y4 ?_;refine Qw (lo:=lo2) (c1:=[zc (p:Nat)]) (m.ext ((Ext.refl b).push _)) X ω ω ρ ρ (fA (cs:=[zc (p:Nat)]) YG rfl rfl) rfl rfl ?_;intro h g I A w3 k;have g:Own (H.next+1) h 1 (sh (H.next+1) (a.length+1) UNK) (a.length+1) (tV a++[zc (p:Nat)]):=by
  have e:(b.push (qt [zc (p:Nat)])).next=H.next+1:=by show b.next+1=_;omega
  rw[←e];exact g
 have I:h.next=H.next+2:=by rw[I];show b.next+1+1=_;omega
 have A:∀z∈h.log,lo2<=z:=λz f=>(A z f).elim id λe=>by
  have e:z∈b.log:=e;rw[O]at e;cases e
 have k:∀z,z<lo2->h.get z=b.get z:=λz f=>(k z (by show z<b.next+1;omega) f).trans (z4 ω);have Q:WF h:=w3 (P.push _);have S:∀o,(b.push o).next=H.next+1:=λo=>by show b.next+1=_;omega
 rw[S];have E:=(k q ω).trans C;have D:=(k l ω).trans B;have t:=GX a p;have u:(a++[p]).length=a.length+1:=by simp
 clear C B;refine yS ?_;refine bA ?_;refine Y2 ?_;refine⟨rfl,⟨_,(z5 (Ne.symm j)).trans D,rfl⟩,λz f=> ?_,rB ω,⟨_,_,_,Heap.aM E,rfl⟩, sh (H.next+1) (a.length+1) UNK,(z5 j).trans (Heap.aM E),rfl,?_,λz f U=> ?_,?_,?_⟩
 ·rcases dW f with rfl|f
  ·exact w
  ·exact gy i (A z f)
 ·rw[t,u];exact Own.low (lo:=H.next+1) (Own.keep g (bl _) λz f _=>(z5 ω).trans (z5 ω)) ω
 ·by_cases hl:z=l
  ·subst hl;rw[gl];exact Heap.aM ((z5 (Ne.symm j)).trans D)
  ·exact(z5 hl).trans ((z5 U).trans ((k z f).trans (s z ω hl).symm))
 ·exact(Q.as (AS.wr _ _ _ _)).as (AS.wr _ _ _ _)
 ·show H.next<=h.next
  omega
structure PAl (N q:Nat) (H0:Heap) (L:bT) (done:List Nat) (H:Heap):Prop where
 old:∀z,z<N->z≠q->H.get z=H0.get z
 loop:H.get N=some L
 ow:∃v,H.get q=some (qt [v])/\Own (N+1) H 1 v done.length (tV done)
 nx:N<H.next
def SN(y:aK T){N q:Nat}{m:Heap}{E F G I J u:Value}{all:List Nat}(L:q<N)(b:all.length<1000000):JI T q (N+1) N q (λp=> zc ((p:Nat):Int)) all (PAl N q m (.loop (bE E F G I J q u) [22] JO JS 0 .normal)):=by
 refine⟨ω,λdone x k H B A K P=> ?_,λdone H l P w d=> ?_⟩
 ·obtain⟨v,g,h⟩:=P.ow;have e:done.length<1000000:=by rw[B,dk]at b;omega
  refine FW.mono' (JM y A (p:=x) (lo2:=N+1) e (bl q) P.loop g h ω ω ω ω) ?_;rintro r l ⟨n,o,s,D,j,t,C,i,O,M⟩;exact⟨n,o,s,⟨_,_,_,j,t⟩,⟨λz c a=>(i z ω a).trans (P.old z c a),(i N ω ω).trans P.loop,⟨D,j,C⟩,by have:=P.nx;omega⟩⟩
 ·obtain⟨v,g,h⟩:=P.ow;have f:=P.nx;exact⟨λz c a=>(d z ω).trans (P.old z c a),(d N f).trans P.loop,⟨v,(d q ω).trans g,h.keep w λz _ c=>d z c⟩,ω⟩
variable{h:Heap}
def WO.J5{base:Nat}{rnd:Option Nat}{Q:XQ}{ops:List bg}{e:Env}{a:Dfs}(b:∀hA,hA=h->WO T base rnd Q ops e a hA):WO T base rnd Q ops e a h:=b h rfl
def EY(a b:List Fk):kK (a++b)=kK a++kK b:=by unfold kK;rw[NE]
def RH{a c:List Fk}{p y z y' z':Int}:((kK (a++⟨p,y,z⟩::c)).set (0+a.length*3+1) (zc y')).set (0+a.length*3+2) (zc z')=kK (a++⟨p,y',z'⟩::c):=by
 have e:∀y z,kK (a++⟨p,y,z⟩::c)=kK a++(zc p:: zc y:: zc z::kK c):=λy z=>by rw[EY];rfl
 rw[e,e,List.set_append_right _ _ (by rw[mw];omega),List.set_append_right _ _ (by rw[mw];omega),mw];rw[show 0+a.length*3+1-a.length*3=1 by omega,show 0+a.length*3+2-a.length*3=2 by omega];rfl
variable{w:List Nat×List Nat}{ns:List (List (List Nat))}
def Jw{l:List Pb}:∀{k:Nat} {f:List Nat} {a:Nat},(fC w l ns k f a).2.length<2 ^ k:=by
 intro k;induction k with
 |zero=>intro f a;exact Nat.zero_lt_one
 |succ k ih=>
  intro f a;rw[Hc];unfold fC;split
  ·exact Nat.mul_pos (Nat.pow_pos ω) ω
  ·have b:=ih (f:=f.set (gM (eV w l ns f) (bM l.length f)) 1) (a:=a+1);have c:=ih (f:=f.set (gM (eV w l ns f) (bM l.length f)) 2) (a:=a+1+(fC w l ns k (f.set (gM (eV w l ns f) (bM l.length f)) 1) (a+1)).2.length);rw[tb,dk];omega
structure Lz (T:Nat->Option aq):Prop where
 bu:AZ T
 f146:T 30=some f146
structure BdN (h0:Heap) (lo b8 b10 b11 b12 m:Nat):Prop where
 l8:h0.next<=b8/\b8<lo
 l10:h0.next<=b10/\b10<lo
 l11:h0.next<=b11/\b11<lo
 l12:h0.next<=b12/\b12<lo
 d8:b8≠b11
 d10:b10≠b11
 d12:b12≠b11
 lm:m<h0.next
def buV(b8 b10 b11 b12:Nat):Value:= .func (.func 30) #[] #[sb b10, sb b8, sb b11, sb b12]
structure BdH (h0 h:Heap) (q m b8 b10 b11 b12 lo:Nat) (w:List Nat×List Nat) (l:List Pb) (ns:List (List (List Nat))):Prop where
 wf:WF h
 nx:lo<=h.next
 old:∀z,z<h0.next->z≠m->h.get z=h0.get z
 mem:∃mm,h.get m=some (.map (kM mm))/\nw w l ns mm
 g8:h.get b8=some (qt [sb q])
 g10:h.get b10=some (qt [vfV q])
 g12:h.get b12=some (qt [buV b8 b10 b11 b12])
variable{h':Heap}
def BdH.step{g:Heap}{q m e a b c:Nat}{l:List Pb}(B:BdH g h q m e a b c lo w l ns)(N:BdN g lo e a b c m)(t:WF h')(s:h.next<=h'.next)(f:∀z,z<lo->z≠m->z≠b->h'.get z=h.get z)(r:∃mm,h'.get m=some (.map (kM mm))/\nw w l ns mm):BdH g h' q m e a b c lo w l ns:=by
 obtain⟨⟨v,i⟩,⟨x,j⟩,⟨y,A⟩,⟨C,k⟩,n,o,p,D⟩:=N;exact⟨t,gy B.nx s,λz u d=>(f z ω d ω).trans (B.old z u d),r,(f e i ω n).trans B.g8,(f a j ω o).trans B.g10,(f c k ω p).trans B.g12⟩
variable{os:List (List Nat)}
def BdH.qu{d:Heap}{q m f a b c:Nat}{j g i:Value}{l:List Pb}(B:BdH d h q m f a b c lo w l ns)(N:BdN d lo f a b c m)(e:WF d)(k:QuH d q m w j g i l os ns):QuH h q m w j g i l os ns:=
 k.keep e (by have:=N.l8;have:=B.nx;omega) B.old B.mem
def SB(m b11:Nat)(v0:Value)(z:Nat):Prop:=z=m∨z=b11∨vB v0 z
def BuQ(m b11 lo nx:Nat)(w:List Nat×List Nat)(l:List Pb)(ns:List (List (List Nat)))(out:List Fk)(v0:Value)(r:Int×List Fk)(v:Value)(h':Heap):Prop:=
 v= zc r.1/\(∃mm,h'.get m=some (.map (kM mm))/\nw w l ns mm)/\∃v1,h'.get b11=some (qt [v1])/\Own lo h' 3 v1 (out.length+r.2.length) (kK (out++r.2))/\∀z,vB v1 z->vB v0 z∨nx<=z
def BdH.log{e h:Heap}{q m d a b c lo:Nat}{w:List Nat×List Nat}{l:List Pb}{ns:List (List (List Nat))}(B:BdH e h q m d a b c lo w l ns)(k:List Nat):BdH e {h with log:=k} q m d a b c lo w l ns:=⟨B.wf.log k,B.nx,B.old,B.mem,B.g8,B.g10,B.g12⟩
variable{sz:Nat}{cs:List Value}
def kN{n z:Nat}(s:Own lo h sz v n cs)(b:vB v z):lo<=z/\z<h.next:=by
 obtain⟨a,c,rfl⟩:=b;cases s with
 |full h1 h2=>exact⟨h1,h2⟩
def wB{n:Nat}(s:Own lo h sz v n cs)(b:h.next<=h'.next)(a:∀z,vB v z->h'.get z=h.get z):Own lo h' sz v n cs:=by
 cases s with
 |nil=>exact .nil
 |full h1 h2 h3 h4 h5=>exact .full h1 ω ((a _ ⟨_,_,rfl⟩).trans h3) h4 h5
def Mp(F:Lz T){K:Heap}(dT:WF K){q m E o g j:Nat}{pv nv ov:Value}{l:List Pb}(Q0:QuH K q m w pv nv ov l os ns)(hc:∀p∈l,1<=p.cost/\p.cost<=1000)(N:BdN K lo E o g j m):
 ∀(k:Nat) {f:List Nat} {h:Heap} {out:List Fk} {v0:Value},f.length=8->(bM l.length f).length<k->bB w l ns f<100000->Rdy h->BdH K h q m E o g j lo w l ns->h.get g=some (qt [v0])->Own lo h 3 v0 out.length (kK out)->out.length+2 ^ k<=1000000→
 Gs T 30 [fV f, sb o, sb E, sb g, sb j] h (SB m g v0) (BuQ m g lo h.next w l ns out v0 (fC w l ns k f out.length)):=by
 intro k;induction k with
 |zero=>intro f h out v0 _ hk;omega
 |succ k ih=>
  intro f h out v0 hf hk hZ hr B ie ow lO;have hp:=F.bu.va.op.qu.p;have hN:=N;obtain⟨⟨a1,a2⟩,⟨a3,a4⟩,⟨a5,a6⟩,⟨a7,a8⟩,d1,d2,d3,lm⟩:=hN;have pi:=B.nx;rw[Hc]at lO;have pj:1<=2 ^ k:=Nat.pow_pos ω;have pf:=Q0.hl;refine Gs.ofM hp F.f146 ?_;have ld:=jN f;refine cQ (E0:=[(1, sb o),(2, sb E),(3, sb g),(4, sb j),(5, sb h.next)]) (P:=λt=>Ext h t∧t.next=h.next+1/\t.get h.next=some (qt (fL f))) ?_ ?_
  ·refine Y3 ?_;refine bA ?_;refine y1 ?_;rw[ld];exact⟨rfl,rfl,rfl,(Ext.refl h).push _,rfl,z3 _ _⟩
  rintro H ⟨x0,n0,g5⟩;have W:=x0.wf hr.wf;have hL:=x0.log.trans hr.log;have BH:BdH K H q m E o g j lo w l ns:=B.step N W x0.next (λz i _ _=>x0.old z ω) (by
   obtain⟨mm,u1,u2⟩:=B.mem;exact⟨mm,(x0.old m ω).trans u1,u2⟩)
  have Q:=(x0.old g ω).trans ie;have eg:=ow.ext x0;have QH:=BH.qu N dT Q0;have cd:=BH.g10;have pp:=nH hf;have py:=kJ hf;have C1:=nZ F.bu.va hc _ (h:=η H) (.of W) (QH.log []) hf (bl _);unfold vfV at cd;by_cases U:bB w l ns f=0
  ·have i4:zz (bB w l ns f) 0 true:=ur U;refine Y5 ?_;refine FW.gsL C1 (λv t m q=>q) ?_;rintro _ s x1 ⟨rfl,I,A,G⟩;have n1:=x1.next
   have lf:∀z∈s.log,SB m g v0 z:=λz i=>(x1.log z i).elim (λq=>by rw[hL]at q;cases q) λq=> .inl q;have e1:fC w l ns (k+1) f out.length=(-1,[]):=by rw[fC,if_pos U]
   rw[e1];have o1:∀z,z<H.next->z≠m->s.get z=H.get z:=λz i r=>x1.old z i r
   have i0:∀h2:Heap,h.next<=h2.next->(∀x,x<h.next->h2.get x=s.get x)->BuQ m g lo h.next w l ns out v0 (-1,[]) (zc (-1)) h2:=λh2 lw ha=>by
    refine⟨rfl,⟨I,(ha m ω).trans A,G⟩,v0,(ha g ω).trans ((o1 g ω ω).trans Q),?_,λz i=> .inl i⟩;have:=wB ow lw λz i=>by
     have V:=kN ow i;exact(ha z V.2).trans ((o1 z ω ω).trans (x0.old z V.2))
    simpa using this
   refine Y8 ?_;exact tw lf rfl (i0 s ω λ_ _=>rfl) (.inr i0)
  have i4:zz (bB w l ns f) 0 false:=jH U;obtain⟨aE,kd⟩:=AM hc ω U hZ;obtain⟨jz,oY⟩:=fJ.1 aE
  have e1:fC w l ns (k+1) f out.length=((out.length:Int),⟨(gM (eV w l ns f) (bM l.length f):Nat),(fC w l ns k (f.set (gM (eV w l ns f) (bM l.length f)) 1) (out.length+1)).1,(fC w l ns k (f.set (gM (eV w l ns f) (bM l.length f)) 2) (out.length+1+(fC w l ns k (f.set (gM (eV w l ns f) (bM l.length f)) 1) (out.length+1)).2.length)).1⟩::
   ((fC w l ns k (f.set (gM (eV w l ns f) (bM l.length f)) 1) (out.length+1)).2++(fC w l ns k (f.set (gM (eV w l ns f) (bM l.length f)) 2) (out.length+1+(fC w l ns k (f.set (gM (eV w l ns f) (bM l.length f)) 1) (out.length+1)).2.length)).2)):=by rw[fC,if_neg U]
  refine Y5 ?_;refine FW.gsL C1 (λv t m q=>q) ?_;clear C1;rintro _ s x1 ⟨rfl,I,A,G⟩;have n1:=x1.next
  have o1:∀z,z<H.next->z≠m->s.get z=H.get z:=λz i r=>x1.old z i r
  have W1:=x1.wf W;have l1:∀z∈s.log,SB m g v0 z:=λz i=>(x1.log z i).elim (λq=>by rw[hL]at q;cases q) λq=> .inl q;have B1:BdH K s q m E o g j lo w l ns:=BH.step N W1 n1 (λz i r _=>o1 z ω r) ⟨I,A,G⟩;have dv:=(o1 h.next ω ω).trans g5;have cj:=(o1 g ω ω).trans Q;have i7:Own lo s 3 v0 out.length (kK out):=wB eg n1 λz i=>by
   have V:=kN eg i;exact o1 z V.2 ω
  clear cd i4 x1;refine Y5 ?_;refine cQ (E0:=[(1, sb o),(2, sb E),(3, sb g),(4, sb j),(5, sb h.next),(7, sb s.next)]) (P:=λt=>Ext s t∧t.next=s.next+1/\t.get s.next=some (qt [.slice none 0 0])) ?_ ?_
  ·refine Y2 ?_;refine bA ?_;refine y1 ?_;exact⟨rfl,rfl,rfl,(Ext.refl s).push _,rfl,z3 _ _⟩
  rintro H2 ⟨x2,n2,eK⟩;have W2:=x2.wf W1;have B2:BdH K H2 q m E o g j lo w l ns:=B1.step N W2 x2.next (λz i _ _=>x2.old z ω) ⟨I,(x2.old m ω).trans A,G⟩
  have ii:=(x2.old _ ω).trans dv;have io:=B2.g8;have C2:=I4 F.bu.va.op (h:=η H2) (.of W2) (sb q) f rfl;refine Y5 ?_;refine FW.al C2 (λv t m q=>q) ?_;clear C2;rintro _ C x3 ⟨rfl,n3,ae,ar⟩;have n3:C.next=H2.next+2:=n3
  have ae:C.get H2.next=some (qt [sb q]):=ae
  have ar:C.get (H2.next+1)=some (qt (fL f)):=ar;have M:=x2.trans x3;have W3:=x3.wf W2;have B3:BdH K C q m E o g j lo w l ns:=B1.step N W3 M.next (λz i _ _=>M.old z ω) ⟨I,(M.old m ω).trans A,G⟩
  have eQ:=(x3.old _ ω).trans eK;have Q3:=B3.qu N dT Q0;generalize hfn:(.func (.func 79) #[] #[sb H2.next, sb (H2.next+1)]:Value)=fn;generalize hL0:(.loop (bE (sb o) (sb E) (sb g) (sb j) (sb h.next) s.next fn) [22] JO JS 0 .normal:bT)=L0;have Y:JI T s.next (C.next+1) C.next s.next (λp=> zc ((p:Nat):Int)) (bM l.length f) (PAl C.next s.next C L0):=by
   rw[←hL0];exact SN hp ω (xj (jQ _ _) ω)
  rw[←hfn];refine Y2 ?_;refine Ie (lo:=s.next) (P:=PAl C.next s.next C L0 (bM l.length f)) rfl ρ (by rw[F.bu.va.op.f228];rfl) ω ω W3 ?_ (λHh p=>by
   have:=p.loop;rw[←hL0]at this;exact⟨_,_,_,_,this⟩) ?_
  ·have S:=hL0;rw[←hfn]at S;unfold bE JO JS at S;rw[S];have o6:∀z,z<C.next->(C.push L0).get z=C.get z:=λz i=>z4 i
   have Q6:QuH {C.push L0 with log:=[]} q m w pv nv ov l os ns:=Q3.keep W3 (Hm _) (λz i _=>o6 z i) ⟨I,(o6 m ω).trans ((M.old m ω).trans A),G⟩;refine NF F.bu.va.op (h:={C.push L0 with log:=[]}) (.of (W3.push L0)) Q6 hf (b1:=H2.next) (b2:=H2.next+1) ((o6 _ ω).trans ae) Y (bl _) (by show s.next<=C.next+1;omega) (λd Hh p=>(p.old _ ω ω).trans ar) ⟨λz i _=>o6 z i,z3 _ _,⟨_,(o6 _ ω).trans eQ, .nil⟩,eA _⟩
  intro h4 Z k1 W4 k3 k4 k5 k6 hP;clear Y;refine Y2 ?_;obtain⟨vl,gl,ib⟩:=hP.ow;have f0:=(k5 s.next ω).trans gl;have i8:Own (C.next+1) Z 1 vl (bM l.length f).length (tV (bM l.length f)):=ib.keep ω λz q1 q2=>k5 z ω;have u:∀z,z<s.next->Z.get z=s.get z:=λz i=>(k6 z i).trans (M.old z i)
  have B4:BdH K Z q m E o g j lo w l ns:=B1.step N W4 ω (λz i _ _=>u z ω) ⟨I,(u m ω).trans A,G⟩;have eq:=(u _ ω).trans dv;have f8:∀z∈Z.log,SB m g v0 z:=λz i=>by
   rw[k1,M.log]at i;exact l1 z i
  clear hP k5 k6 gl ib eQ B3 B2 Q3 ae ar io ii eK W2;refine cQ (E0:=[(3, sb g),(4, sb j),(5, sb h.next),(7, sb s.next),(9, sb Z.next)]) (P:=λt=>Ext Z t∧t.next=Z.next+1/\t.get Z.next=some (qt [woV E o h.next])) ?_ ?_
  ·refine Y4 ?_;refine bA ?_;refine y1 ?_;exact⟨rfl,rfl,rfl,((Ext.refl Z).push _).wr (bl _) ω,rfl,Heap.aM (z3 _ _)⟩
  rintro H5 ⟨x5,n5,f7⟩;have W5:=x5.wf W4;have B5:BdH K H5 q m E o g j lo w l ns:=B4.step N W5 x5.next (λz i _ _=>x5.old z ω) ⟨I,(x5.old m ω).trans ((u m ω).trans A),G⟩
  have dC:=(x5.old _ ω).trans eq;have il:=(x5.old _ ω).trans f0;have i9:=i8.ext x5;have Q5:=B5.qu N dT Q0;have ph:=jQ l.length f;have lh:0<(bM l.length f).length:=ac9 aE;have C3:=ND F.bu (h:=η H5) (.of W5) hc (Q5.log []) hf (b1:=E) (b2:=o) (b3:=h.next) (b9:=Z.next) B5.g8 B5.g10 dC f7 (L:=bM l.length f) ((i9.slice ω).log []) (λp hp=>(fJ.1 hp).1) ω;refine Y4 ?_;refine FW.gsL C3 (λv t lg q=>q) ?_;clear C3;rintro _ D x6 ⟨rfl,i5,dE,fw⟩;have n6:=x6.next
  have o6:∀z,z<H5.next->z≠m->D.get z=H5.get z:=λz i r=>x6.old z i r
  have W6:=x6.wf W5;have B6:BdH K D q m E o g j lo w l ns:=B5.step N W6 n6 (λz i r _=>o6 z ω r) ⟨i5,dE,fw⟩;have eI:=(o6 _ ω ω).trans dC;have X:∀z,z<s.next->z≠m->D.get z=s.get z:=λz i r=>(o6 z ω r).trans ((x5.old z ω).trans (u z i))
  have cJ:=(X g ω ω).trans cj;have be:Own lo D 3 v0 out.length (kK out):=wB i7 ω λz i=>by
   have V:=kN ow i;exact X z ω ω
  have f9:∀z∈D.log,SB m g v0 z:=λz i=>(x6.log z i).elim (λq=>by rw[x5.log]at q;exact f8 z q) λq=> .inl q;clear x5 x6 o6 B5 B4 B1 f7 il dC eq f0 i9 i8 A i7 Q5;generalize gM (eV w l ns f) (bM l.length f)=b at*;have lL:out.length<1000000:=ω
  obtain⟨va,vc,m8⟩:=(be.slice ω).form;subst m8;refine Y6 ?_;refine cQ (E0:=[(3, sb g),(4, sb j),(5, sb h.next),(10, zc (b:Nat)),(12, zc (out.length:Nat))]) (P:=λt=>D=t) ?_ ?_
  ·refine Y4 ?_;refine bA ?_;refine y1 ?_;exact⟨rfl,rfl,rfl,rfl⟩
  rintro _ rfl;refine cQ (E0:=[(3, sb g),(4, sb j),(5, sb h.next),(10, zc (b:Nat)),(12, zc (out.length:Nat))]) (P:=λt=>∃v2,(∀z,vB v2 z->D.next<=z)/\Own lo t 3 v2 (out++[⟨b,0,0⟩]:List Fk).length (kK (out++[⟨b,0,0⟩]))/\t.get g=some (qt [v2])/\g∈t.log/\(∀z∈t.log,SB m g (.slice va out.length vc) z)/\(∀z,z<D.next->z≠g->¬vB (.slice va out.length vc) z->t.get z=D.get z)/\WF t∧D.next<=t.next) ?_ ?_
  ·refine Y5 ?_;refine WO.J5 ?_;intro hA aw;have xA:Ext D hA:=by rw[aw];exact(Ext.refl D).push _
   have nA:hA.next=D.next+1:=by rw[aw];rfl
   have gA:hA.get D.next=some (.cells [zc (b:Nat), zc 0, zc 0] true 3):=by rw[aw];exact z3 _ _
   clear aw;refine Gq (c1:=[zc (b:Nat), zc 0, zc 0]) (be.ext xA) lL ω ω ρ ρ (fA gA rfl rfl) rfl rfl ?_;intro H7 bj n7 mf w7 o7;have J:H7.get g=some (qt [.slice va out.length vc]):=(o7 g ω (λq a c e e2=>by
    have:=kN be ⟨a,c,e⟩;omega)).trans ((xA.old g ω).trans cJ)
   refine yS ?_;refine bA ?_;refine y1 ?_;exact⟨rfl,rfl,rfl,_,(λz ⟨a,c,e⟩=>by cases e;omega),((by rw[dk,EY];exact bj:Own hA.next H7 3 _ (out++[⟨b,0,0⟩]:List Fk).length (kK (out++[⟨b,0,0⟩]))).low ω).keep (bl _) (λz i _=>z5 ω),Heap.aM J,Eb ω,(λz i=>by
    rcases dW i with rfl|i
    ·exact .inr (.inl rfl)
    ·rcases mf z i with i|i
     ·exact f9 z (xA.log▸i)
     ·exact .inr (.inr i)),(λz i r U=>(z5 r).trans ((o7 z ω λq a c e e2=>U ⟨a,c,e2▸e⟩).trans (xA.old z i))),(w7 (xA.wf W6)).as (AS.wr _ _ _ _),(by show D.next<=H7.next;omega)⟩
  rintro H7 ⟨v2,ba,bj,J,fX,fb,o7,W7,n7⟩;have hJ:∀z,z<lo->¬vB (.slice va out.length vc) z:=λz i U=>by
   have:=kN ow U;omega
  have B7:BdH K H7 q m E o g j lo w l ns:=B6.step N W7 n7 (λz i r gg=>o7 z ω gg (hJ z i)) ⟨i5,(o7 m ω ω (hJ m ω)).trans dE,fw⟩;have eJ:=(o7 h.next ω ω (λU=>by
   have:=kN ow U;omega)).trans eI
  have d9:=B7.g12;clear o7 B6 eI cJ dE be u X f9 f8 l1 dv g5 o1 cj W6 Q eg W BH QH;have fg:b<f.length:=ω
  have ol:=lX (n:=l.length) (f:=f) (a:=1) fg ω aE;have oX:=lX (n:=l.length) (f:=f) (a:=2) fg ω aE;have ke:(f.set b 1).length=8:=by rw[hG];exact hf
  have lc:(f.set b 2).length=8:=by rw[hG];exact hf
  have dp:bB w l ns (f.set b 1)<100000/\bB w l ns (f.set b 2)<100000:=by
   have h1:=(lH hc jz).1;unfold eV at kd;omega
  have pm:=Jw (w:=w) (l:=l) (ns:=ns) (k:=k) (f:=f.set b 1) (a:=out.length+1);have C4:=rA F.bu.va.op (h:=η H7) (.of W7) hf (p:=b) (a:=1) ω;have I1:=ih (f:=f.set b 1) (h:=η H7) (out:=out++[⟨b,0,0⟩]) (v0:=v2) ke ω dp.1 (.of W7) (B7.log []) J (bj.log []) (by rw[dk,Do];omega);rw[show(out++[⟨b,0,0⟩]:List Fk).length=out.length+1 from by rw[dk,Do]]at I1;unfold buV at d9;generalize hR1:fC w l ns k (f.set b 1) (out.length+1)=R1 at*;refine Y6 ?_;refine FW.puD C4 (by(repeat apply aB rfl);apply au rfl (ah rfl (cw ρ τ ρ) (by refine sY ?_ ?_;exact iq;refine cD (iZ _) ?_;refine cD (iZ _) ?_;refine cD (iZ _) ?_;refine cD (iZ _) ?_;exact iq)) rfl;exact aQ) ?_;clear C4;skip;refine qC ?_;refine FW.Ve I1 (λv t lg ⟨q1,q2,v1,q3,O,q5⟩=>⟨q1,q2,v1,q3,O.log lg,q5⟩) ?_;clear I1;rintro _ H8 pA x8 np ⟨rfl,⟨nf,ip,ll⟩,v3,cX,e9,m9⟩;have n8:=x8.next
  have W8:=x8.wf W7;have o8:∀z,z<lo->z≠m->z≠g->H8.get z=H7.get z:=λz i h1 h2=>x8.old z ω λhS=>by
   rcases hS with e|e|e
   ·exact h1 e
   ·exact h2 e
   ·have:=ba z e;omega
  have B8:BdH K H8 q m E o g j lo w l ns:=B7.step N W8 n8 o8 ⟨nf,ip,ll⟩;have ik:=(x8.old h.next ω λhS=>by
   rcases hS with e|e|e
   ·omega
   ·omega
   ·have:=ba _ e;omega).trans eJ
  have da:=B8.g12;have fY:=x8.Vp _ fX;have fd:∀z∈H8.log,SB m g (.slice va out.length vc) z:=λz i=>(x8.R5 z i).elim (fb z) λ⟨q,hb⟩=>by
   rcases q with e|e|e
   ·exact .inl e
   ·exact .inr (.inl e)
   ·have:=ba z e;omega
  have du:∀z,vB v3 z->D.next<=z:=λz i=>(m9 z i).elim (ba z) λe=>by
   have:H7.next<=z:=e
   omega
  refine⟨_,by apply aB rfl;exact aQ,?_⟩;clear B7 eJ d9 bj J W7 fb fX;have po:=Jw (w:=w) (l:=l) (ns:=ns) (k:=k) (f:=f.set b 2) (a:=out.length+1+R1.2.length);have C5:=rA F.bu.va.op (h:=η H8) (.of W8) hf (p:=b) (a:=2) ω;rw[←List.length_append]at e9;have I2:=ih (f:=f.set b 2) (h:=η H8) (out:=(out++[⟨b,0,0⟩])++R1.2) (v0:=v3) lc ω dp.2 (.of W8) (B8.log []) cX (e9.log []) (by rw[dk,dk,Do];omega);rw[show((out++[⟨b,0,0⟩])++R1.2:List Fk).length=out.length+1+R1.2.length from by rw[dk,dk,Do]]at I2;unfold buV at da;generalize hR2:fC w l ns k (f.set b 2) (out.length+1+R1.2.length)=R2 at*;refine Y10 ?_;refine FW.puD C5 (by(repeat apply aB rfl);apply au rfl (ah rfl (cw ρ τ ρ) (by refine sY ?_ ?_;exact iq;refine cD (iZ _) ?_;refine cD (iZ _) ?_;refine cD (iZ _) ?_;refine cD (iZ _) ?_;exact iq)) rfl;exact aQ) ?_;clear C5;skip;refine qC ?_;refine FW.Ve I2 (λv t lg ⟨q1,q2,v1,q3,O,q5⟩=>⟨q1,q2,v1,q3,O.log lg,q5⟩) ?_;clear I2;rintro _ H9 pB x9 o0 ⟨rfl,⟨nl,jp,lr⟩,v4,eh,bo,md⟩;have n9:=x9.next
  have W9:=x9.wf W8;have ge:=x9.Vp _ fY;have ju:∀z∈H9.log,SB m g (.slice va out.length vc) z:=λz i=>(x9.R5 z i).elim (fd z) λ⟨q,hb⟩=>by
   rcases q with e|e|e
   ·exact .inl e
   ·exact .inr (.inl e)
   ·have:=du z e;omega
  have hY:∀z,vB v4 z->D.next<=z:=λz i=>(md z i).elim (du z) λe=>by
   have:H8.next<=z:=e
   omega
  refine⟨_,by apply aB rfl;exact aQ,?_⟩;clear B8 ik da e9 cX W8 fd x9 x8;rw[show((out++[⟨b,0,0⟩])++R1.2++R2.2:List Fk)=out++⟨b,0,0⟩::(R1.2++R2.2)from by simp]at bo;obtain⟨nn,gt⟩:∃nn,nn=((out++[⟨b,0,0⟩])++R1.2:List Fk).length+R2.2.length:=⟨_,rfl⟩;rw[←gt]at bo;rw[dk,dk,Do]at gt;generalize hcs:kK (out++⟨b,0,0⟩::(R1.2++R2.2))=cs at bo;cases bo with
  |nil=>omega
  | @full O _ _ q1 q2 q3 q5 q6=>
  have pk:=hY O ⟨_,_,rfl⟩;refine Y14 ?_;refine iU rfl rfl rfl ρ ρ ρ τ ρ ρ ω ω ω (by(repeat apply aB rfl);apply au rfl (ah rfl (dM ρ) (by exact dh _ _)) rfl;apply aB rfl;apply au rfl (ah rfl (dM ρ) (by exact dh _ _)) rfl;apply au rfl (ah rfl (cw ρ YG ρ) (by exact dw _ _ _)) rfl;(repeat apply aB rfl);exact aQ) ?_;refine Y2 ?_;refine iU rfl rfl rfl ρ ρ ρ YG ρ ρ (by(simp only[aF,hG];omega)) (by(simp only[z1,z2];omega)) ω (by(repeat apply aB rfl);exact aQ) ?_;refine Y8 ?_;have dj:=RH (a:=out) (c:=R1.2++R2.2) (p:=b) (y:=0) (z:=0) (y':=R1.1) (z':=R2.1);rw[hcs]at dj;rw[dj,e1];have fj:((H9.wr h.next O (.cells (cs.set (0+out.length*3+1) (zc R1.1)) true 3)).wr h.next O (.cells (kK (out++⟨b,R1.1,R2.1⟩::(R1.2++R2.2))) true 3)).log=H9.log:=by rw[Heap.aA ω,Heap.aA ω]
  have i6:∀z,z≠O->((H9.wr h.next O (.cells (cs.set (0+out.length*3+1) (zc R1.1)) true 3)).wr h.next O (.cells (kK (out++⟨b,R1.1,R2.1⟩::(R1.2++R2.2))) true 3)).get z=H9.get z:=λz i=>(z5 i).trans (z5 i);have cY:=(i6 g ω).trans eh;refine tw (λz i=>ju z (fj▸i)) rfl ⟨rfl,⟨nl,(i6 m ω).trans jp,lr⟩,_,cY,?_,λz ⟨a,c,e⟩=> .inr (by cases e;omega)⟩ (.inl ⟨g,ω,by rw[fj];exact ge,_,_,_,cY,rfl⟩);have:=Own.full (lo:=lo) (sz:=3) (n:=nn) q1 (h:=(H9.wr h.next O (.cells (cs.set (0+out.length*3+1) (zc R1.1)) true 3)).wr h.next O (.cells (kK (out++⟨b,R1.1,R2.1⟩::(R1.2++R2.2))) true 3)) q2 (Heap.aM (Heap.aM q3)) (by rw[mw];simp only[dk,tb];omega) q6;rw[show out.length+(⟨b,R1.1,R2.1⟩::(R1.2++R2.2):List Fk).length=nn from by simp only[dk,tb];omega];exact this
end Go.A.Pk
end
section
namespace Go.A
variable {T:Nat->Option aq} {base:Nat} {rnd:Option Nat} {Q:XQ} {e:Env} {ds:Dfs} {h:Heap}
def FW.abm{f:Nat}{args:List Value}{S:Nat->Prop}{g:Value->Heap->Prop}{K:List Rec->Env->Heap->Prop}{a:Nat}{rs:List Rec}{dst:Option Nat}(H:Gs T f args (η h) S g)
 (j:∀v h' lg,WsL base S h h'→(∀z∈lg,S z)->(∀z∈lg,z<base->z∈h'.log)->g v {h' with log:=lg}->∃b,bL h' base lg a rs=some b∧K b (cN e dst v) h'):FW T (.func f) args (η h) (KD K base a rs dst e h.log):=by
 refine .func (CW.mono H ?_);rintro r c ⟨i,v,rfl,l⟩;obtain⟨b,m,n⟩:=j v {c with log:=aJ base h.log c.log} c.log i.Mv (λz d=>(i.log z d).elim (λq=>by cases q) id) (λz d k=>mem_merge k d) l;refine⟨?_⟩;show kD K base a rs dst e h.log (.ret v) c;unfold kD;simp only[m];exact n
end Go.A
namespace Go.A.Pk
variable {T:Nat->Option aq}
def fsL(L:List (List Nat)):List Value:=L.flatMap fL
def RL(a b:List (List Nat)):fsL (a++b)=fsL a++fsL b:=by unfold fsL;rw[NE]
def RM(f:List Nat):fsL [f]=fL f:=by unfold fsL;simp
def Dk(w:List Nat×List Nat)(l:List Pb)(ns:List (List (List Nat)))(k i:Nat)(f:List Nat)(j:Nat):List (List Nat):=(List.range j).flatMap λa=>jg w l ns k (i+1) (f.set i a)
def pY{w:List Nat×List Nat}{l:List Pb}{ns:List (List (List Nat))}{k i:Nat}{f:List Nat}{j:Nat}:Dk w l ns k i f (j+1)=Dk w l ns k i f j++jg w l ns k (i+1) (f.set i j):=by
 unfold Dk;rw[P2,NE];simp
def OY{w:List Nat×List Nat}{l:List Pb}{ns:List (List (List Nat))}{k i:Nat}{f:List Nat}:Dk w l ns k i f 3=jg w l ns (k+1) i f:=by
 rw[pY,pY,pY];show([]++_++_)++_=_;rw[jg,D4,At]
def CD{w:List Nat×List Nat}{l:List Pb}{ns:List (List (List Nat))}:∀{k i:Nat} {f:List Nat},(jg w l ns k i f).length<=3 ^ k:=by
 intro k;induction k with
 |zero=>intro i f;unfold jg;split<;>simp
 |succ k ih=>
  intro i f;have a:=ih (i:=i+1) (f:=f.set i 0);have b:=ih (i:=i+1) (f:=f.set i 1);have c:=ih (i:=i+1) (f:=f.set i 2);rw[jg,dk,dk,Hc];omega
def FO{w:List Nat×List Nat}{l:List Pb}{ns:List (List (List Nat))}{k i:Nat}{f:List Nat}:∀j,(Dk w l ns k i f j).length<=j*3 ^ k
 |0=>by simp[Dk]
 |j+1=>by
  have h1:=FO (w:=w) (l:=l) (ns:=ns) (k:=k) (i:=i) (f:=f) j;have a:=CD (w:=w) (l:=l) (ns:=ns) (k:=k) (i:=i+1) (f:=f.set i j);rw[pY,dk,Bo];omega
def MY{h:Heap}{e:Env}{z cs:List Value}{k:Nat}{x:Operand}(a:cs.length=k)(f:z.length=k)(d:ev h e x=some (.agg cs.toArray)):jO h e z [(0,k,x)]=some cs:=by
 have b:cellsOf (.agg cs.toArray)=cs:=by show cs.toArray.toList=_;simp
 have c:dP z 0 cs=cs:=by rw[gH ω,a,ST,List.drop_eq_nil_of_le ω];simp
 simp only[jO,d,b,c,cK,a,f,beq_eq,ble_eq,hF];simp
def FJ{lo sz n:Nat}{h h':Heap}{v:Value}{cs:List Value}(s:Own lo h sz v n cs)(a:∀z,vB v z->z<h'.next/\h'.get z=h.get z):Own lo h' sz v n cs:=by
 cases s with
 |nil=>exact .nil
 |full h1 h2 h3 h4 h5=>exact .full h1 (a _ ⟨_,_,rfl⟩).1 ((a _ ⟨_,_,rfl⟩).2.trans h3) h4 h5
structure LN (T:Nat->Option aq):Prop where
 op:yg T
 f153:T 37=some f153
 f230:T 81=some f230
structure GnN (h0:Heap) (lo b1 b3 b4:Nat):Prop where
 l1:h0.next<=b1/\b1<lo
 l3:h0.next<=b3/\b3<lo
 l4:h0.next<=b4/\b4<lo
 d1:b1≠b3
 d4:b4≠b3
def gnV(b1 b3 b4:Nat):Value:= .func (.func 81) #[] #[sb b1, sb b3, sb b4]
structure GnH (h0 h:Heap) (q b1 b3 b4 lo:Nat):Prop where
 wf:WF h
 nx:lo<=h.next
 old:∀z,z<h0.next->h.get z=h0.get z
 g1:h.get b1=some (qt [sb q])
 g4:h.get b4=some (qt [gnV b1 b3 b4])
def GnH.log{b h:Heap}{q b1 b3 a lo:Nat}(G:GnH b h q b1 b3 a lo)(k:List Nat):GnH b {h with log:=k} q b1 b3 a lo:=⟨G.wf.log k,G.nx,G.old,G.g1,G.g4⟩
def GnH.step{b h h':Heap}{q b1 b3 a lo:Nat}(G:GnH b h q b1 b3 a lo)(N:GnN b lo b1 b3 a)(j:WF h')(i:h.next<=h'.next)(c:∀z,z<lo->z≠b3->h'.get z=h.get z):GnH b h' q b1 b3 a lo:=by
 obtain⟨⟨l,d⟩,⟨m,n⟩,⟨o,e⟩,f,g⟩:=N;exact⟨j,gy G.nx i,λz k=>(c z ω ω).trans (G.old z k),(c b1 d f).trans G.g1,(c a e g).trans G.g4⟩
def GnH.qu{b h:Heap}{q m b1 b3 d lo:Nat}{w:List Nat×List Nat}{i e f:Value}{l:List Pb}{os:List (List Nat)}{ns:List (List (List Nat))}(G:GnH b h q b1 b3 d lo)(N:GnN b lo b1 b3 d)(a:WF b)(c:QuH b q m w i e f l os ns):QuH h q m w i e f l os ns:=by
 obtain⟨n,g,j⟩:=c.mem;exact c.keep a (by have:=N.l1;have:=G.nx;omega) (λz k _=>G.old z k) ⟨n,(G.old m (a.dJ g)).trans g,j⟩
def SG(b3:Nat)(v0:Value)(z:Nat):Prop:=z=b3∨vB v0 z
def GnQ(b3 lo nx:Nat)(out:List (List Nat))(v0:Value)(r:List (List Nat))(v:Value)(h':Heap):Prop:=
 v= .tuple #[]/\∃v1,h'.get b3=some (qt [v1])/\Own lo h' 8 v1 (out++r).length (fsL (out++r))/\(∀z,vB v1 z->vB v0 z∨nx<=z)/\((b3∈h'.log/\dQ [v1]=false)∨v1=v0)
def Vc(F:LN T){D:Heap}(ae:WF D){q m lo b1 b3 r:Nat}{w:List Nat×List Nat}{pv nv ov:Value}{l:List Pb}{os:List (List Nat)}{ns:List (List (List Nat))}(Q0:QuH D q m w pv nv ov l os ns)(N:GnN D lo b1 b3 r):
 ∀(k i:Nat) {f:List Nat} {h:Heap} {out:List (List Nat)} {v0:Value},f.length=8->i+k=l.length->Rdy h->GnH D h q b1 b3 r lo->h.get b3=some (qt [v0])->Own lo h 8 v0 out.length (fsL out)->out.length+3 ^ k<=1000000→
 Gs T 81 [fV f, zc (i:Nat), sb b1, sb b3, sb r] h (SG b3 v0) (GnQ b3 lo h.next out v0 (jg w l ns k i f)):=by
 have hp:=F.op.qu.p;have hN:=N;obtain⟨⟨a1,a2⟩,⟨a3,a4⟩,⟨a5,a6⟩,d1,d2⟩:=hN;have eI:=Q0.hl;obtain⟨pa,pc,cX⟩:=Q0.sp.form;subst cX;intro k;induction k with
 |zero=>
  intro i f h out v0 o hi Y G g3 C Z;have cJ:=G.nx;refine Gs.ofM hp F.f230 ?_;have I:=jN f;refine cQ (E0:=[(1, zc (i:Nat)),(2, sb b1),(3, sb b3),(4, sb r),(5, sb h.next)]) (P:=λg=>Ext h g∧g.next=h.next+1/\g.get h.next=some (qt (fL f))) ?_ ?_
  ·refine Y2 ?_;refine bA ?_;refine y1 ?_;rw[I];exact⟨rfl,rfl,rfl,(Ext.refl h).push _,rfl,z3 _ _⟩
  rintro H ⟨n,n0,g5⟩;have W:=n.wf Y.wf;have hL:=n.log.trans Y.log;have L:GnH D H q b1 b3 r lo:=G.step N W n.next (λz d _=>n.old z ω)
  have M:=L.qu N ae Q0;have aE:=L.g1;have t:=(n.old b3 ω).trans g3;have y:=C.ext n;have be:=M.gq;have kp:=xz M.hw (.slice pa l.length pc) nv ov (.map (some m));have aw:=nH o;have d9:=kJ o;have m1:zz i l.length true:=ur ω;have C1:=Je F.op (h:=η H) (.of W) (M.log []) o;refine Y16 ?_;refine FW.pu C1 ?_;clear C1;by_cases O:eD w l ns f=true
  ·have s:jg w l ns 0 i f=[f]:=by rw[jg,if_pos O]
   rw[O,s];refine Y13 ?_;refine aG (kA (MY (by rw[gz,o]) rfl ρ) rfl) ?_;refine WO.J5 ?_;intro hA u;have xA:Ext H hA:=by rw[u];exact(Ext.refl H).push _
   have nA:hA.next=H.next+1:=by rw[u];rfl
   have gA:hA.get H.next=some (.cells (fL f) true 8):=by rw[u];exact z3 _ _
   clear u;refine Gq (c1:=fL f) (y.ext xA) ω ω ω ρ ρ (fA gA aw (by rw[gz,o])) (by rw[gz,o]) (xV f) ?_;intro H7 dv n7 dj w7 o7;have Q:H7.get b3=some (qt [v0]):=(o7 b3 ω (λq a c e B=>by
    have:=kN C ⟨a,c,e⟩;omega)).trans ((xA.old b3 ω).trans t)
   refine Y4 ?_;refine tw (λz d=> ?_) rfl ⟨rfl,_,Heap.aM Q,?_,λz ⟨a,c,e⟩=> .inr (by cases e;omega), .inl ⟨Eb ω,rfl⟩⟩ (.inl ⟨b3,ω,Eb ω,_,_,_,Heap.aM Q,rfl⟩)
   ·rcases dW d with rfl|d
    ·exact .inl rfl
    ·rcases dj z d with d|d
     ·rw[xA.log,hL]at d;cases d
     ·exact .inr d
   ·have B:fsL (out++[f])=fsL out++fL f:=by rw[RL,RM]
    rw[B,dk];exact(dv.low ω).keep (bl _) (λz d _=>z5 ω)
  ·have O:eD w l ns f=false:=by simpa using O
   have s:jg w l ns 0 i f=[]:=by rw[jg,O];rfl
   rw[O,s];have ar:∀S:Heap,h.next<=S.next->(∀x,x<h.next->S.get x=H.get x)->GnQ b3 lo h.next out v0 [] (.tuple #[]) S:=λS cd U=>by
    refine⟨rfl,v0,(U b3 ω).trans t,?_,λz d=> .inl d, .inr rfl⟩;rw[wl];exact FJ y λz d=>by
     have:=kN C d;exact⟨ω,U z this.2⟩
   refine Y14 ?_;exact tw (λz d=>by rw[hL]at d;cases d) rfl (ar H ω λ_ _=>rfl) (.inr ar)
 |succ k ih=>
  intro i f h out v0 o hi Y G g3 C Z;have cJ:=G.nx;refine Gs.ofM hp F.f230 ?_;have I:=jN f;refine cQ (E0:=[(1, zc (i:Nat)),(2, sb b1),(3, sb b3),(4, sb r),(5, sb h.next)]) (P:=λg=>Ext h g∧g.next=h.next+1/\g.get h.next=some (qt (fL f))) ?_ ?_
  ·refine Y2 ?_;refine bA ?_;refine y1 ?_;rw[I];exact⟨rfl,rfl,rfl,(Ext.refl h).push _,rfl,z3 _ _⟩
  rintro H ⟨n,n0,g5⟩;have W:=n.wf Y.wf;have hL:=n.log.trans Y.log;have L:GnH D H q b1 b3 r lo:=G.step N W n.next (λz d _=>n.old z ω)
  have M:=L.qu N ae Q0;have aE:=L.g1;have t:=(n.old b3 ω).trans g3;have y:=C.ext n;have be:=M.gq;have kp:=xz M.hw (.slice pa l.length pc) nv ov (.map (some m));have aw:=nH o;have d9:=kJ o;have m1:zz i l.length false:=jH ω;have bo:i<8:=ω
  rw[Hc]at Z;have eJ:1<=3 ^ k:=Nat.pow_pos ω;rw[←OY];refine Y18 ?_;refine aY (λk' e ds g=>∃(j:Nat) (A:Value),j<=3/\3-j=k'∧e=[(1, zc (i:Nat)),(4, sb r),(5, sb h.next),(29, .agg ([.int .u8 0, .int .u8 1, .int .u8 2]:List Value).toArray),(30, zc (j:Nat))]/\ds=[]/\WF g∧H.next<=g.next/\(∀z∈g.log,SG b3 v0 z)/\(∀z,z<H.next->¬SG b3 v0 z->g.get z=H.get z)/\g.get b3=some (qt [A])/\Own lo g 8 A (out++Dk w l ns k i f j).length (fsL (out++Dk w l ns k i f j))/\(∀z,vB A z->vB v0 z∨H.next<=z)/\((b3∈g.log/\dQ [A]=false)∨A=v0)) ⟨0,v0,ω,rfl,rfl,rfl,W,bl _,(λz d=>by rw[hL]at d;cases d),λ_ _ _=>rfl,t,(by show Own lo H 8 v0 (out++[]).length (fsL (out++[]));rw[wl];exact y),λz d=> .inl d, .inr rfl⟩ ?_;rintro k' e ds X ⟨j,A,eh,eq,rfl,rfl,Wj,nj,lj,oj,gj,K,v,J⟩;by_cases hlt:j<3
  ·have dp:zd j 3 true:=dz ω;have ki:bN (([.int .u8 0, .int .u8 1, .int .u8 2]:List Value).toArray).toList (j*1)=some (.int .u8 (j:Nat)):=by
    rcases(by omega:j=0∨j=1∨j=2)with rfl|rfl|rfl<;>rfl
   have du:∀z,z<lo->z≠b3->X.get z=H.get z:=λz d cj=>oj z ω λE=>by
    rcases E with e|e
    ·exact cj e
    ·have:=kN C e;omega
   have Gj:GnH D X q b1 b3 r lo:=L.step N Wj nj du;have ba:=Gj.g4;have eg:=(oj h.next ω λE=>by
    rcases E with e|e
    ·omega
    ·have:=kN C e;omega).trans g5
   unfold gnV at ba;have dT:zE i 1 ((i+1:Nat):Int):=by
    have:=fK (a:=(i:Nat)) (b:=1) (aO ω ω);exact this
   have e9:zE j 1 ((j+1:Nat):Int):=by
    have:=fK (a:=(j:Nat)) (b:=1) (aO ω ω);exact this
   have C4:=rA F.op (h:=η X) (.of Wj) o (p:=i) (a:=j) bo;have eQ:=FO (w:=w) (l:=l) (ns:=ns) (k:=k) (i:=i) (f:=f) j;have eK:j*3 ^ k<=2*3 ^ k:=LT _ ω;have I1:=ih (i+1) (f:=f.set i j) (h:=η X) (out:=out++Dk w l ns k i f j) (v0:=A) (by rw[hG];exact o) ω (.of Wj) (Gj.log []) gj (K.log []) (by rw[dk];omega);refine Y10 ?_;refine aG (GA ρ ρ ω τ) ?_;refine Y10 ?_;refine FW.puD C4 (by apply au rfl (ah rfl (rD ρ ρ (by with_reducible assumption)) (by exact dh _ _)) rfl;apply au rfl (ah rfl (dM ρ) (by exact dh _ _)) rfl;(repeat apply aB rfl);apply au rfl (ah rfl (cw ρ τ ρ) (by refine sY ?_ ?_;exact iq;refine cD (iZ _) ?_;refine cD (iZ _) ?_;refine cD (iZ _) ?_;exact iq)) rfl;exact aQ) ?_;clear C4;skip;refine qC ?_;refine FW.abm I1 ?_;clear I1;rintro _ h8 f0 x8 dE V ⟨rfl,v8,g8,dC,cY,da⟩;have n8:=x8.next
   refine⟨_,by(repeat apply aB rfl);exact aQ,?_⟩;refine Y8 ?_;refine⟨3-(j+1),ω,j+1,v8,ω,rfl,rfl,rfl,x8.wf Wj,ω,λz d=> ?_,λz d E=>(x8.old z ω λbj=> ?_).trans (oj z d E),g8,?_,λz d=>(cY z d).elim (v z) λe=> .inr (by have:X.next<=z:=e;omega),?_⟩
   ·rcases x8.R5 z d with e|⟨e,hb⟩
    ·exact lj z e
    ·rcases e with e|e
     ·exact .inl e
     ·rcases v z e with e|e
      ·exact .inr e
      ·omega
   ·rcases bj with e|e
    ·exact E (.inl e)
    ·rcases v z e with e|e
     ·exact E (.inr e)
     ·omega
   ·rw[pY,←List.append_assoc];exact dC.log _
   ·rcases da with⟨s,B⟩|e
    ·exact .inl ⟨V _ s ω,B⟩
    ·rw[e];rcases J with⟨s,B⟩|e
     ·exact .inl ⟨x8.Vp _ s,B⟩
     ·exact .inr e
  ·obtain rfl:j=3:=ω
   have dp:zd ((3:Nat):Int) 3 false:=rfl;refine Y9 ?_;refine J1 lj rfl ⟨rfl,A,gj,K,λz d=>(v z d).imp id λe=>ω,J⟩ ?_;rcases J with⟨s,B⟩|rfl
   ·exact .inl ⟨b3,ω,s,_,_,_,gj,B⟩
   ·refine .inr λS cd U=>⟨rfl,A,(U b3 ω).trans gj,FJ K λz d=> ?_,λz d=> .inl d, .inr rfl⟩;have:=kN C d;exact⟨ω,U z this.2⟩
def K8(F:LN T){h:Heap}(hr:Rdy h){q m:Nat}{w:List Nat×List Nat}{pv nv ov:Value}{l:List Pb}{os:List (List Nat)}{ns:List (List (List Nat))}(t:QuH h q m w pv nv ov l os ns):
 Al T 37 [sb q] h (λv b=>Own h.next b 8 v (jg w l ns l.length 0 z8).length (fsL (jg w l ns l.length 0 z8))):=by
 have Y:=F.op.qu.p;refine .of Y F.f153 hr (λv h1 Z o=>Own.Bu Z o) ?_;have kq:=hr.wf.dJ t.gq;refine cQ (E0:=[(1, sb h.next)]) (P:=λb=>Ext h b∧b.next=h.next+1/\b.get h.next=some (qt [sb q])) ?_ ?_
 ·refine Y3 ?_;refine bA ?_;refine y1 ?_;exact⟨rfl,rfl,rfl,(Ext.refl h).push _,rfl,z3 _ _⟩
 rintro d ⟨x1,n1,V⟩;refine cQ (E0:=[(1, sb h.next),(3, sb d.next)]) (P:=λb=>Ext d b∧b.next=d.next+1/\b.get d.next=some (qt [.slice none 0 0])) ?_ ?_
 ·refine Y2 ?_;refine bA ?_;refine y1 ?_;exact⟨rfl,rfl,rfl,(Ext.refl d).push _,rfl,z3 _ _⟩
 rintro g ⟨S,n2,W⟩;refine cQ (E0:=[(1, sb h.next),(3, sb d.next),(4, sb g.next)]) (P:=λb=>Ext g b∧b.next=g.next+1/\b.get g.next=some (qt [.nilFunc])) ?_ ?_
 ·refine Y2 ?_;refine bA ?_;refine y1 ?_;exact⟨rfl,rfl,rfl,(Ext.refl g).push _,rfl,z3 _ _⟩
 rintro M ⟨I,n3,X⟩;refine cQ (E0:=[(3, sb d.next),(4, sb g.next)]) (P:=λb=>Ext h b∧b.next=M.next/\(∀z,z<g.next->b.get z=M.get z)/\b.get g.next=some (qt [gnV h.next d.next g.next])) ?_ ?_
 ·refine Y3 ?_;refine bA ?_;refine y1 ?_;exact⟨rfl,rfl,rfl,(x1.trans (S.trans I)).wr ω ω,rfl,λz s=>z5 ω,Heap.aM X⟩
 rintro k ⟨J,n4,Q,n⟩;have O:=J.wf hr.wf;have A:=J.log.trans hr.log;have u:=(Q _ ω).trans ((I.old _ ω).trans ((S.old _ ω).trans V));have y:=(Q _ ω).trans ((I.old _ ω).trans W);have N:GnN h k.next h.next d.next g.next:=⟨⟨ω,ω⟩,⟨ω,ω⟩,⟨ω,ω⟩,ω,ω⟩
 have U:GnH h (η k) q h.next d.next g.next k.next:=⟨O.log [],bl _,λz s=>J.old z s,u,n⟩
 have C:=t.hl;have K:=Vc F hr.wf t N l.length 0 (f:=z8) (h:=η k) (out:=[]) (v0:= .slice none 0 0) rfl (hF _) (.of O) U y .nil (by
  have:3 ^ l.length<=3 ^ 8:=xl ω C;show 0+3 ^ l.length<=1000000;have:(3:Nat) ^ 8=6561:=by decide
  omega)
 have L:Gs T 81 [fV z8, zc ((0:Nat):Int), sb h.next, sb d.next, sb g.next] (η k) (SG d.next (.slice none 0 0)) (λv b=>v= .tuple #[]/\∃j,b.get d.next=some (qt [j])/\Own k.next b 8 j (jg w l ns l.length 0 z8).length (fsL (jg w l ns l.length 0 z8))):=CW.mono K (by
  rintro r h2 ⟨x,v,rfl,E,j,G,H,q4,q5⟩;exact⟨x,v,rfl,E,j,G,H⟩)
 clear K;have i:=n;unfold gnV at i;refine Y4 ?_;refine FW.gs0 L (λv b lg ⟨E,j,G,H⟩=>⟨E,j,G,H.log lg⟩) (λz s=> ?_) ?_
 ·rcases s with e|⟨a,c,e⟩
  ·omega
  ·cases e
 clear L i;rintro _ H5 n5 l5 o5 w5 ⟨rfl,j,g5,D⟩;have B:=l5.trans A;refine Y6 ?_;exact cW B rfl (D.low ω)
end Go.A.Pk
end
section
namespace Go.A.Pk
variable {T:Nat->Option aq}
def oZ(w:List Nat×List Nat)(l:List Pb)(os:List (List Nat)):List Fk:=if(pI w l os).2=0 then DU w l (os.map (cE w))else []
def UO(lo:Nat)(w:List Nat×List Nat)(l:List Pb)(os:List (List Nat))(v:Value)(h':Heap):Prop:=
 ∃v1,v= .tuple #[v1, zc (pI w l os).2]/\Own lo h' 3 v1 (oZ w l os).length (kK (oZ w l os))
structure Uo (T:Nat->Option aq):Prop where
 bd:Lz T
 od:Ip T
 f58:T 8=some f58
def Ib(F:Uo T){h:Heap}(hr:Rdy h)(hg:Tab h)(h2:0<h.next){w:List Nat×List Nat}(hw:IsW w){pv:Value}{l:List Pb}(sp:PbS h pv l)(hl:l.length<1000000){ov:Value}{os:List (List Nat)}(so:SsQ h ov os)(cX:os.length<1000000):
 Al T 8 [wV w,pv,ov] h (UO h.next w l os):=by
 have hp:=F.od.va.op.qu.p;refine .of hp F.f58 hr (λv h1 hv ⟨V,e,o⟩=>⟨V,e,?_⟩) ?_
 ·subst e;exact Own.Uw hv o
 have cY:cellsOf (wV w)=wL w:=by show(wL w).toArray.toList=_;simp
 obtain⟨a,c,rfl⟩:=sp.form;obtain⟨a3,c3,rfl⟩:=so.sl.form;have X:Ext h (h.push (qt (cellsOf (wV w)))):=(Ext.refl h).push _;have g0:(h.push (qt (cellsOf (wV w)))).get h.next=some (qt (wL w)):=by rw[cY];exact z3 h _
 have n0:(h.push (qt (cellsOf (wV w)))).next=h.next+1:=rfl
 refine Y5 ?_;generalize(h.push (qt (cellsOf (wV w))))=H at*;have W:=X.wf hr.wf;have hL:=X.log.trans hr.log;have wk:=ja hw;have dp:=gu hw;have C1:=zX F.od (h:=η H) (.of W) (show Tab H from hg.ext X h2) (by show 0<H.next;omega) hw ((sp.ext X).log []) hl ((so.ext X).log []) cX;refine Y5 ?_;refine FW.al C1 (λv b m q=> ?_) ?_
 ·rcases q with q|⟨e,q,m',nv,e1,e2,e3,e4,e5⟩
  ·exact .inl q
  ·exact .inr ⟨e,q,m',nv,e1,e2,e3,e4.log m,e5⟩
 clear C1;rintro _ d Y (⟨B,rfl⟩|⟨B,q,m,nv,rfl,O,dj,Q1,gm⟩)
 ·have e2:(pI w l os).2=opE w l os:=by rw[nF,if_pos B]
  unfold UO oZ;rw[e2,if_neg B];generalize opE w l os=er at*;have A:=Y.log.trans hL;have mn:zB er 0 true:=iY B;refine Y20 ?_;have n1:H.next<=d.next:=Y.next
  exact cW (by rw[Heap.aA ω];exact A) rfl ⟨_,rfl, .nil⟩
 have O:H.next<=m:=O
 have n1:H.next<=d.next:=Y.next
 have W1:=Y.wf W;have A:=Y.log.trans hL;have kq:=W1.dJ Q1.gq;have mn:zB 0 0 false:=rfl;have M:=qH (j5.1 (vw.1 B).1).2.2.2.2;have K:(pI w l os).2=if 100000<=bB w l (os.map (cE w)) z8 then 81 else 0:=by
  rw[nF,if_neg (λq=>q B)];split<;>rfl
 generalize hns:os.map (cE w)=ns at*;refine Y7 ?_;refine WE.E4 ?_;intro g hA;have x2:Ext d g:=by rw[hA];exact((Ext.refl d).push _).wr (bl _) ω
 have n2:g.next=d.next+1:=by rw[hA];rfl
 have ae:g.get d.next=some (qt [sb q]):=by rw[hA];exact Heap.aM (z3 _ _)
 clear hA;refine Y8 ?_;refine cQ (E0:=[(8, sb d.next),(10, sb g.next)]) (P:=λb=>Ext g b∧b.next=g.next+1/\b.get g.next=some (qt [vfV q])) ?_ ?_
 ·refine Y5 ?_;refine bA ?_;refine y1 ?_;exact⟨rfl,rfl,rfl,((Ext.refl g).push _).wr (bl _) ω,rfl,Heap.aM (z3 _ _)⟩
 rintro H3 ⟨x3,n3,u⟩;have ar:=(x3.old _ ω).trans ae;have i:=x2.trans x3;have W3:=i.wf W1;have bj:=i.log.trans A;have Q3:QuH H3 q m w _ nv _ l os ns:=Q1.keep W1 i.next (λz s _=>i.old z s) ⟨[],(i.old m ω).trans gm,λx hx=>by cases hx⟩
 have C2:=nZ F.bd.bu.va M _ (h:=η H3) (.of W3) (Q3.log []) (f:=z8) rfl (bl _);have S:af .geq (zc (bB w l ns z8)) (zc 100000)=some (.bool (decide (100000<=bB w l ns z8))):=BB;have n:=u;unfold vfV at n;refine Y5 ?_;refine FW.gs0 C2 (λv b m q=>q) (λz s=>ω) ?_;clear C2 n;rintro _ j n4 l4 o4 w4 ⟨rfl,d9,ba,cj⟩;have W4:=w4 W3;have L:=l4.trans bj;have aw:=(o4 _ ω ω).trans ar;have D:=(o4 _ ω ω).trans u;by_cases hge:100000<=bB w l ns z8
 ·rw[decide_eq_true hge]at S;rw[if_pos hge]at K;unfold UO oZ;rw[K,if_neg (by decide)];refine Y9 ?_;exact cW L rfl ⟨_,rfl, .nil⟩
 rw[decide_eq_false hge]at S;rw[if_neg hge]at K;have Q:bB w l ns z8<100000:=ω
 refine Y5 ?_;refine cQ (E0:=[(8, sb d.next),(10, sb g.next),(11, sb j.next)]) (P:=λb=>Ext j b∧b.next=j.next+1/\b.get j.next=some (qt [.slice none 0 0])) ?_ ?_
 ·refine Y2 ?_;refine bA ?_;refine y1 ?_;exact⟨rfl,rfl,rfl,(Ext.refl j).push _,rfl,z3 _ _⟩
 rintro k ⟨x5,n5,G⟩;refine cQ (E0:=[(8, sb d.next),(10, sb g.next),(11, sb j.next),(12, sb k.next)]) (P:=λb=>Ext k b∧b.next=k.next+1/\b.get k.next=some (qt [.nilFunc])) ?_ ?_
 ·refine Y2 ?_;refine bA ?_;refine y1 ?_;exact⟨rfl,rfl,rfl,(Ext.refl k).push _,rfl,z3 _ _⟩
 rintro H6 ⟨x6,n6,J⟩;refine cQ (E0:=[(11, sb j.next),(12, sb k.next)]) (P:=λb=>b.next=H6.next/\b.log=H6.log/\WF b∧(∀z,z<k.next->b.get z=H6.get z)/\b.get k.next=some (qt [buV d.next g.next j.next k.next])) ?_ ?_
 ·refine Y3 ?_;refine bA ?_;refine y1 ?_;exact⟨rfl,rfl,rfl,rfl,Heap.aA ω,(x6.wf (x5.wf W4)).as (AS.wr _ _ _ _),λz s=>z5 ω,Heap.aM J⟩
 rintro C ⟨n7,l7,W7,o7,y⟩;have Z:=x5.trans x6;have bo:=(l7.trans Z.log).trans L;have t:∀z,z<j.next->C.get z=j.get z:=λz s=>(o7 z ω).trans (Z.old z s)
 have aE:=(t _ ω).trans aw;have E:=(t _ ω).trans D;have I:=(o7 _ ω).trans ((x6.old _ ω).trans G);have be:=(t m ω).trans ba;have N:BdN d C.next d.next g.next j.next k.next m:=⟨⟨ω,ω⟩,⟨ω,ω⟩,⟨ω,ω⟩,⟨ω,ω⟩,ω,ω,ω,ω⟩
 have B7:BdH d (η C) q m d.next g.next j.next k.next C.next w l ns:=⟨W7.log [],bl _,λz s cJ=>(t z ω).trans ((o4 z ω cJ).trans (i.old z s)),⟨d9,be,cj⟩,aE,E,y⟩
 have C3:=Mp F.bd W1 Q1 M N 10 (f:=z8) (h:=η C) (out:=[]) (v0:= .slice none 0 0) rfl (xj (jQ _ _) (by have:=Q1.hl;omega)) Q (.of W7) B7 I .nil (by decide);have r:=y;unfold buV at r;refine Y4 ?_;refine FW.gs0 C3 (λv b lg ⟨q1,q2,V,q3,q4,q5⟩=>⟨q1,q2,V,q3,q4.log lg,q5⟩) (λz s=> ?_) ?_
 ·rcases s with e|e|⟨a,c,e⟩
  ·omega
  ·omega
  ·cases e
 clear C3 r;rintro _ H8 n8 l8 o8 w8 ⟨rfl,_,V,da,U,_⟩;have cd:=l8.trans bo;refine Y7 ?_;refine cW cd rfl ⟨V,by rw[K];rfl,?_⟩;unfold oZ DU;rw[K,if_pos rfl,hns];have e:([]:List Fk).length+(fC w l ns 10 z8 ([]:List Fk).length).2.length=(fC w l ns 10 z8 0).2.length:=hF _;rw[e]at U;exact U.low ω
end Go.A.Pk
end
section
namespace Go.A
variable {T:Nat->Option aq} {base:Nat} {rnd:Option Nat} {Q:XQ} {e:Env} {ds:Dfs} {h:Heap}
def Qr{lo sz b n:Nat}{ops:List bg}{bf:List Nat}{rs:List Rec}{Q:Env->Heap->Prop}{i f:Nat}{is:List Nat}{dst:Option Nat}{g:Option (Nat×Bool)}{l:Env}{x y:Operand}{v u:Value}{cs c1:List Value}
 (s:Own lo h sz v n cs)(N:n<1000000)(A:0<sz)(hb:b<=100000)(p:base<=lo)
 (F:bN ops i=some ⟨dst, .append sz b x y,g⟩)(E:bN bf i=some f)(D:cZ e (dK ⟨dst, .append sz b x y,g⟩)=l)(k:cg l g=some true)
 (H:ev (η h) l x=some v)(I:ev (η h) l y=some u)(G:dg (η h) sz u=some (c1,1))(r:c1.length=sz)(h1:eN c1=true)
 (C:∀h' lg,Own h.next h' sz (.slice (some ⟨h.next,0,none⟩) (n+1) UNK) (n+1) (cs++c1)->h'.next=h.next+1->h'.log=h.log->(WF h->WF h')->(∀z,z<h.next->(∀q a c,v= .slice (some ⟨q,0,none⟩) a c->z≠q)->h'.get z=h.get z)->∃d,bL h' base lg f rs=some d∧WD T base ops bf Q is d (cN e dst (.slice (some ⟨h.next,0,none⟩) (n+1) UNK)) h'):WD T base ops bf Q (i::is) rs e h:=by
 have j:(2*(n+1)+768)*b<=281474976710656:=by
  have:(2*(n+1)+768)*b<=2000768*100000:=Hn ω hb;omega
 cases s with
 |nil=>
  have:=Own.full (lo:=h.next) (h:=h.push (.cells c1 true sz)) (sz:=sz) (q:=h.next) (n:=1) (cs:=c1) (bl _) (eA _) (z3 _ _) ω ω;obtain⟨d,J,m⟩:=C _ [] this rfl rfl (λw=>w.push _) (λz B _=>z4 B);exact uH (n:=1) F E D k H I G ω (by simpa using j) J m
 | @full q _ _ J m q3 q4 q5=>
   have K:Own h.next ((h.wr base q .dead).push (.cells (cs++c1) true sz)) sz (.slice (some ⟨h.next,0,none⟩) (n+1) UNK) (n+1) (cs++c1):= .full (bl _) (eA _) (z3 _ _) (by rw[dk,q4,r,Bo,ab5]) ω
   obtain⟨d,L,M⟩:=C _ [q] K rfl (Heap.aA (o:= .dead) ω) (λw=>(w.as (AS.wr base _ q .dead)).push _) (λz B t=>(z4 (by exact B)).trans (z5 (t q _ _ rfl)));exact mZ F E D k rfl (jc (h:=η h) (n:=1) (vs:=cs) (ws:=cs++c1) H I G ω q3 q4 A h1 j (dS _ _)) (rU m _ _) (tX m .dead) L M
end Go.A
namespace Go.A.Pk
variable {T:Nat->Option aq}
def WD.J5{base:Nat}{ops:List bg}{bf:List Nat}{rs:List Rec}{Q:Env->Heap->Prop}{is:List Nat}{e:Env}{h:Heap}(a:∀hA,hA=h->WD T base ops bf Q is rs e hA):WD T base ops bf Q is rs e h:=a h rfl
structure Ly (T:Nat->Option aq):Prop where
 od:Ip T
 ss:LN T
 f59:T 9=some f59
 f154:T 38=some f154
def ZO(lo n:Nat)(cs:List Value)(v:Value)(h':Heap):Prop:=∃b c,v= sh b n c/\lo<=b/\aH h' 1 v n cs
def MA(F:Ly T){h:Heap}(hr:Rdy h){b n c:Nat}{cs:List Value}(s:aH h 1 (sh b n c) n cs)(t:n<1000000):
 Al T 38 [sh b n c] h (ZO h.next n cs):=by
 have l:=F.od.va.op.qu.p;refine .of l F.f154 hr (λv r m ⟨b,c,e,_⟩=>by subst e;cases m) ?_;have f:=aH.len s;by_cases h0:n=0
 ·subst h0;have k:cs=[]:=List.eq_nil_of_length_eq_zero (by rw[f,I0]);subst k;refine Y6 ?_;refine aG (Ep ρ ρ ρ) ?_;refine Y7 ?_;refine WO.J5 ?_;intro d a;have i:Ext h d:=by rw[a];exact(Ext.refl h).push _
  have o:d.next=h.next+1:=by rw[a];rfl
  have j:d.get h.next=some (qt []):=by rw[a];exact z3 _ _
  clear a;have g:=i.log.trans hr.log;refine aG (qg ρ ρ (AG (s.ext i)) (bl _)) ?_;refine Y3 ?_;exact cW g rfl ⟨h.next,0,rfl,bl _, .mem ⟨ω,⟨_,_,_,j,rfl⟩,rfl⟩ (bl _)⟩
 ·refine Y6 ?_;refine aG (Ep ρ ρ ρ) ?_;refine Y7 ?_;refine WO.J5 ?_;intro d a;have i:Ext h d:=by rw[a];exact(Ext.refl h).push _
  have o:d.next=h.next+1:=by rw[a];rfl
  have j:d.get h.next=some (qt []):=by rw[a];exact z3 _ _
  clear a;have g:=i.log.trans hr.log;refine aG (qf (ws:=cs) ρ ρ (AG (s.ext i)) h0 ω (by decide) j (by decide) ω ρ) ?_;have q:Own h.next (d.push (qt cs)) 1 (sh d.next n UNK) n cs:= .full ω (eA _) (z3 _ _) f h0
  refine Y3 ?_;refine cW g rfl ?_;rw[hF];exact⟨d.next,UNK,rfl,ω,q.slice ω⟩
def ri(w:List Nat×List Nat)(l:List Pb)(ns:List (List (List Nat)))(f:List Nat):Sta:=⟨f.take l.length,bB w l ns f⟩
def M1:∀{L:List (List Nat)},(∀f∈L,f.length=8)->∀{j:Nat} {f:List Nat},L[j]? =some f->((fsL L).drop (j*8)).take 8=fL f
 |[],_,j,f,h=>by simp at h
 |g::L,hg,0,f,h=>by
  simp at h;subst h;have e:fsL (g::L)=fL g++fsL L:=rfl;have a:=hg g b7;rw[e,I0,ww,q9 (by rw[gz,a];exact bl _),go (by rw[gz,a];exact bl _)]
 |g::L,hg,j+1,f,h=>by
  have e:fsL (g::L)=fL g++fsL L:=rfl;have a:=hg g b7;have b:(fsL (g::L)).drop 8=fsL L:=by
   rw[e,Ej (by rw[gz,a];exact bl _),xi (by rw[gz,a];exact bl _),D4]
  rw[show(j+1)*8=8+j*8 by omega,←List.drop_drop,b];exact M1 (λf c=>hg f (bz _ c)) (by simpa using h)
def PM{fs:List Value}{s:List Sta}{u:Value}{x:Sta}(h:fs.length=s.length):stL (fs++[u]) (s++[x])=stL fs s++[u, zc x.cost]:=by
 unfold stL;rw[List.zip_append h,NE];rfl
structure ElS (lo:Nat) (h:Heap) (v:Value) (fs:List Value) (s:List Sta):Prop where
 len:fs.length=s.length
 ow:Own lo h 2 v s.length (stL fs s)
 el:∀(i:Nat) u x,fs[i]? =some u->s[i]? =some x->aH h 1 u x.found.length (fL x.found)/\∃b o k c,u= .slice (some ⟨b,o,none⟩) k c/\lo<=b/\b<h.next/\¬vB v b
def aH.zC{h h':Heap}{sz n b o k c:Nat}{cs:List Value}(s:aH h sz (.slice (some ⟨b,o,none⟩) k c) n cs)(g:h.next<=h'.next)(f:h'.get b=h.get b):aH h' sz (.slice (some ⟨b,o,none⟩) k c) n cs:=by
 cases s with
 |mem s hc=>
  obtain⟨i,a,t,d,e⟩:=s.obj;exact .mem ⟨m6 s.lt g,⟨i,a,t,f.trans d,e⟩,s.len⟩ hc
def ElS.keep{lo:Nat}{h h':Heap}{v:Value}{fs:List Value}{s:List Sta}(E:ElS lo h v fs s)(e:h.next<=h'.next)(d:∀z,lo<=z->z<h.next->h'.get z=h.get z):ElS lo h' v fs s:=
 ⟨E.len,E.ow.keep e d,λi u x j l=>by
  obtain⟨m,b,o,k,c,rfl,a,f,g⟩:=E.el i u x j l;exact⟨aH.zC m e (d b a f),b,o,k,c,rfl,a,ω,g⟩⟩
def ElS.snoc{lo:Nat}{h h':Heap}{v v':Value}{fs:List Value}{s:List Sta}{b k c:Nat}{x:Sta}(E:ElS lo h v fs s)(g:lo<=h.next)(q:Own h.next h' 2 v' (s.length+1) (stL fs s++[sh b k c, zc x.cost]))(n:h.next<=h'.next)
 (m:∀z,lo<=z->z<h.next->¬vB v z->h'.get z=h.get z)(w:aH h 1 (sh b k c) x.found.length (fL x.found))(hb:lo<=b/\b<h.next/\¬vB v b):ElS lo h' v' (fs++[sh b k c]) (s++[x]):=by
 have p:∀z,z<h.next->¬vB v' z:=λz A ⟨a,c,e⟩=>by
  subst e;cases q with
  |full d f=>omega
 refine⟨by rw[dk,dk,E.len];rfl,by rw[PM E.len,dk];exact q.low g,λi u y d f=> ?_⟩;rcases Nat.lt_trichotomy i s.length with hi|hi|hi
 ·rw[oB (by rw[E.len];exact hi)]at d;rw[oB hi]at f;obtain⟨t,b,o,k,c,rfl,j,l,r⟩:=E.el i u y d f;exact⟨aH.zC t n (m b j l r),b,o,k,c,rfl,j,ω,p b l⟩
 ·subst hi;rw[hX (by rw[E.len];exact bl _),E.len]at d;rw[hX ω]at f;simp at d f;subst d;subst f;exact⟨aH.zC w n (m b hb.1 hb.2.1 hb.2.2),b,0,k,c,rfl,hb.1,ω,p b hb.2.1⟩
 ·rw[kz (by rw[dk,E.len];simp;omega)]at d;cases d
def vW(w:List Nat×List Nat)(l:List Pb)(os:List (List Nat)):List Sta:=if opE w l os=0/\bB w l (os.map (cE w)) z8≠0 then Cn w l (os.map (cE w))else []
def UJ(w:List Nat×List Nat)(l:List Pb)(os:List (List Nat))(v:Value)(h':Heap):Prop:=∃v1,v= .tuple #[v1, zc (opE w l os)]/\yw h' v1 (vW w l os)
def yw.nil{h:Heap}{c:Nat}:yw h (.slice none 0 c) []:=⟨[],rfl, .nil,λi u x h=>by simp at h⟩
def Et(F:Ly T){h:Heap}(hr:Rdy h)(hg:Tab h)(D:0<h.next){w:List Nat×List Nat}(hw:IsW w){pv:Value}{l:List Pb}(sp:PbS h pv l)(hl:l.length<1000000){ov:Value}{os:List (List Nat)}(so:SsQ h ov os)(du:os.length<1000000):
 Al T 9 [wV w,pv,ov] h (UJ w l os):=by
 have hp:=F.od.va.op.qu.p;refine .of hp F.f59 hr (λv h1 t ⟨v1,e,o⟩=>⟨v1,e,?_⟩) ?_
 ·subst e;obtain⟨B,e1,s,_⟩:=o.ex;rcases aH.inv s with⟨c,rfl,Z,_⟩|⟨b,o,cap,rfl,_⟩
  ·rw[List.eq_nil_of_length_eq_zero Z];exact .nil
  ·cases t
 have e9:cellsOf (wV w)=wL w:=by show(wL w).toArray.toList=_;simp
 obtain⟨a,c,rfl⟩:=sp.form;obtain⟨a3,c3,rfl⟩:=so.sl.form;have x0:Ext h (h.push (qt (cellsOf (wV w)))):=(Ext.refl h).push _;have g0:(h.push (qt (cellsOf (wV w)))).get h.next=some (qt (wL w)):=by rw[e9];exact z3 h _
 have n0:(h.push (qt (cellsOf (wV w)))).next=h.next+1:=rfl
 refine Y5 ?_;generalize(h.push (qt (cellsOf (wV w))))=H at*;have W:=x0.wf hr.wf;have hL:=x0.log.trans hr.log;have wk:=ja hw;have i6:=gu hw;have C1:=zX F.od (h:=η H) (.of W) (show Tab H from hg.ext x0 D) (by show 0<H.next;omega) hw ((sp.ext x0).log []) hl ((so.ext x0).log []) du;refine Y5 ?_;refine FW.al C1 (λv d m q=> ?_) ?_
 ·rcases q with q|⟨e,q,m',nv,e1,s,Z,e4,e5⟩
  ·exact .inl q
  ·exact .inr ⟨e,q,m',nv,e1,s,Z,e4.log m,e5⟩
 clear C1;rintro _ H1 x1 (⟨he,rfl⟩|⟨he,q,m,nv,rfl,bj,hJ,Q1,gm⟩)
 ·unfold UJ vW;rw[if_neg (λe=>he e.1)];generalize opE w l os=er at*;have M:=x1.log.trans hL;have mn:zB er 0 true:=iY he;refine Y25 ?_;exact cW M rfl ⟨_,rfl, .nil⟩
 have bj:H.next<=m:=bj
 have n1:H.next<=H1.next:=x1.next
 have W1:=x1.wf W;have kq:=W1.dJ Q1.gq;have M:=x1.log.trans hL;have mn:zB 0 0 false:=rfl;have be:=qH (j5.1 (vw.1 he).1).2.2.2.2;unfold UJ vW;rw[he];have ba:=Q1.hl;generalize hns:os.map (cE w)=ns at*;have C2:=nZ F.od.va be _ (h:=η H1) (.of W1) (Q1.log []) (f:=z8) rfl (bl _);refine Y17 ?_;refine FW.gs0 C2 (λv d m q=>q) (λz y=>ω) ?_;clear C2;rintro _ H2 n2 l2 o2 w2 ⟨rfl,eJ,cj,da⟩;have W2:=w2 W1;have ar:=l2.trans M;by_cases t:bB w l ns z8=0
 ·have eq:zz (bB w l ns z8) 0 true:=ur t;rw[if_neg (λe=>e.2 t)];refine Y12 ?_;exact cW ar rfl ⟨_,rfl, .nil⟩
 have eq:zz (bB w l ns z8) 0 false:=jH t;rw[if_pos ⟨rfl,t⟩];have Q2:QuH H2 q m w _ nv _ l os ns:=Q1.keep W1 n2 (λz y J=>o2 z y J) ⟨eJ,cj,da⟩;have C3:=K8 F.ss (h:=η H2) (.of W2) (Q2.log []);have ae:∀g∈jg w l ns l.length 0 z8,g.length=8:=λg hg=>((xY (by show 0+l.length<=8;omega)).1 hg).2.1;have aw:Cn w l ns=(jg w l ns l.length 0 z8).map (ri w l ns):=rfl;rw[aw];have fw:=CD (w:=w) (l:=l) (ns:=ns) (k:=l.length) (i:=0) (f:=z8);have fj:(jg w l ns l.length 0 z8).length<=6561:=by
  have:3 ^ l.length<=3 ^ 8:=xl ω ba;have:(3:Nat) ^ 8=6561:=by decide
  omega
 generalize jg w l ns l.length 0 z8=G at*;refine Y14 ?_;refine FW.al C3 (λv d lg q=>q.log lg) ?_;clear C3;rintro sl r x3 cd;have W3:=x3.wf W2;have cY:=x3.log.trans ar;have Q3:QuH r q m w _ nv _ l os ns:=Q2.ext W2 x3;have n3:=x3.next
 obtain⟨sa,sc,rfl⟩:=(cd.slice ω).form;refine Y4 ?_;refine aY (λk' e ds d=>∃(j:Nat) (v:Value) (B:List Value),j<=G.length/\G.length-j=k'∧e=[(1, .slice a l.length c),(8, sb q),(10,v),(30, .slice sa G.length sc),(31, zc (G.length:Nat)),(32, zc (j:Nat))]/\ds=[]/\WF d∧d.log=[]/\r.next<=d.next/\(∀z,z<r.next->z≠m->d.get z=r.get z)/\(∃mm,d.get m=some (.map (kM mm))/\nw w l ns mm)/\ElS r.next d v B ((G.take j).map (ri w l ns))) ⟨0, .slice none 0 0,[],hK _,rfl,rfl,rfl,W3,cY,bl _,λ_ _ _=>rfl,Q3.mem,rfl, .nil,λi u x h=>by simp at h⟩ ?_;rintro k' e ds K ⟨j,v,B,fX,ge,rfl,rfl,Wj,lj,nj,oj,⟨eQ,cX,dp⟩,O⟩;by_cases hlt:j<G.length
 ·have eI:zd j G.length true:=dz ω;obtain⟨f,hf⟩:∃f,G[j]? =some f:=⟨G[j],bx hlt⟩;have I:=ae f (ci hf);have d9:=M1 ae hf;have Qj:QuH K q m w _ nv _ l os ns:=Q3.keep W3 nj oj ⟨eQ,cX,dp⟩;obtain⟨qs,qo,qc,dv,f9,_⟩:=(aH.inv (cd.slice ω)).resolve_left (λ⟨_,_,e,_⟩=>ω);cases dv;obtain⟨vs,i5,tt,C,dT⟩:=f9.obj;have fY:((G.take j).map (ri w l ns)).length=j:=by rw[j3,lp];omega
  obtain⟨U,V,dE⟩:=(O.ow.slice ω).form;subst dE;have i0:cm 8 (bQ (qo+j*8) vs)=fL f:=by
   rw[←d9,←dT];simp only[bw,aT,ab7,ab8,Co];congr 1;omega
  have hY:=nH I;have hZ:=kJ I;have f0:qs≠m:=λe=>by
   obtain⟨mm,g,_⟩:=Q3.mem;rw[e,g]at C;cases C
  have eh:=W3.dJ C;have fg:=(oj qs eh f0).trans C;have fd:zE j 1 ((j+1:Nat):Int):=by
   have:=fK (a:=(j:Nat)) (b:=1) (aO ω ω);exact this
  refine Y9 ?_;refine cQ (E0:=[(1, .slice a l.length c),(8, sb q),(10, .slice U ((G.take j).map (ri w l ns)).length V),(12, sb K.next),(30, .slice (some ⟨qs,qo,none⟩) G.length sc),(31, zc (G.length:Nat)),(32, zc (j:Nat))]) (P:=λd=>Ext K d∧d.next=K.next+1/\d.get K.next=some (qt (fL f))) ?_ ?_
  ·refine Y4 ?_;refine aG (bH (cs:=fL f) ρ ρ (z3 _ _) (by rw[gz,I]) rfl (xV f)) ?_;refine bA ?_;refine y1 ?_;exact⟨rfl,rfl,rfl,((Ext.refl K).push _).wr (bl _) ω,rfl,Heap.aM (z3 _ _)⟩
  rintro hA ⟨X,nA,gA⟩;have WA:=X.wf Wj;have lA:=X.log.trans lj;have QA:=Qj.ext Wj X;have EA:ElS r.next hA (.slice U ((G.take j).map (ri w l ns)).length V) B ((G.take j).map (ri w l ns)):=O.keep X.next λz _ y=>X.old z y
  refine Y4 ?_;refine qZ9 (c:=Er (i:=0) (j:=l.length) ρ rfl ρ ω ω ω ω) (H:=?_);have ht:fL (f.take l.length)=(fL f).take l.length:=by simp[fL,List.map_take]
  have bo:(f.take l.length).length=l.length:=by rw[lp];omega
  have C5:=MA F (h:=η hA) (.of WA) (b:=K.next) (n:=l.length) (c:=8) (cs:=fL (f.take l.length)) (.mem ⟨by show K.next<hA.next;omega,⟨_,_,_,gA,by rw[bw,aT,ww,xr,ht]⟩,by rw[gz,bo,xr]⟩ ba) ω;refine Y3 ?_;refine FW.alD C5 (λv d lg ⟨b,c,e1,s,Z⟩=>⟨b,c,e1,s,Z.log lg⟩) ?_;clear C5;rintro _ hB L ⟨A,cu,rfl,aE,su⟩;have aE:hA.next<=A:=aE
  have WB:=L.wf WA;have lB:=L.log.trans lA;have QB:=QA.ext WA L;have EB:ElS r.next hB (.slice U ((G.take j).map (ri w l ns)).length V) B ((G.take j).map (ri w l ns)):=EA.keep L.next λz _ y=>L.old z y
  have gB:=(L.old _ ω).trans gA;refine⟨_,by apply au rfl (ah rfl (bW ρ τ τ τ) (by exact AJ _)) rfl;apply au rfl (ah rfl (dM ρ) (by exact bh _)) rfl;(repeat apply aB rfl);apply au rfl (ah rfl (dM ρ) (by exact dw _ _ _)) rfl;exact aQ,?_⟩;have C6:=nZ F.od.va be _ (h:=η hB) (.of WB) (QB.log []) (f:=f) I (bl _);skip;refine qC ?_;refine FW.Ve C6 (λv d lg q=>q) ?_;clear C6;rintro _ Q lg Y gg ⟨rfl,eK,cJ,dj⟩;have nC:=Y.next
  have WC:=Y.wf WB;have lC:Q.log=[]:=List.eq_nil_iff_forall_not_mem.2 λz y=>(Y.R5 z y).elim (λe=>by rw[lB]at e;cases e) λ⟨e,s⟩=>by
   have e:z=m:=e;omega
  refine⟨_,by(repeat apply aB rfl);apply au rfl (ah rfl (dM ρ) (by exact dw _ _ _)) rfl;exact aQ,?_⟩;have gt:m<r.next:=ω
  have EC:ElS r.next Q (.slice U ((G.take j).map (ri w l ns)).length V) B ((G.take j).map (ri w l ns)):=EB.keep nC λz h1 D=>Y.old z D (by show z≠m;omega)
  refine qZ9 (c:=mS ρ) (H:=?_);refine ru rfl rfl rfl ρ ρ ρ (kA ρ ρ) (by refine bY (ah rfl (mS ρ) (by refine mP ?_;refine cD (PE _ _ _) ?_;refine cD (eT _ _) ?_;exact iq)) ?_;refine bY (ah rfl (dM ρ) (by exact dw _ _ _)) ?_;exact qT) ?_;refine WD.J5 ?_;intro S E;have N:Ext Q S:=by rw[E];exact(Ext.refl Q).push _
  have nP:S.next=Q.next+1:=by rw[E];rfl
  have gP:S.get Q.next=some (.cells [sh A l.length cu, zc (bB w l ns f)] true 2):=by rw[E];exact z3 _ _
  clear E;have EP:ElS r.next S (.slice U ((G.take j).map (ri w l ns)).length V) B ((G.take j).map (ri w l ns)):=EC.keep N.next λz _ D=>N.old z D
  have nB:=L.next
  refine Qr (c1:=[sh A l.length cu, zc (bB w l ns f)]) EP.ow ω ω ω ω rfl rfl rfl ρ ρ ρ (DQ (fA gP rfl rfl)) rfl rfl ?_;intro H9 i4 f8 n9 l9 w9 o9;refine⟨_,by(repeat apply aB rfl);exact aQ,?_⟩;refine Y9 ?_;have dC:(G.take (j+1)).map (ri w l ns)=(G.take j).map (ri w l ns)++[ri w l ns f]:=by
   rw[ab3,hf];simp
  have W9:=w9 (N.wf WC);have lP:=N.log;have eg:A<hB.next:=by
   rcases aH.inv su with⟨_,e,_⟩|⟨b,o,cap,e,s1,_⟩
   ·cases e
   ·cases e;exact s1.lt
  have f7:¬vB (.slice U ((G.take j).map (ri w l ns)).length V) A:=λt=>by
   have:=kN EA.ow t;omega
  have fb:aH S 1 (sh A l.length cu) (ri w l ns f).found.length (fL (ri w l ns f).found):=by
   show aH S 1 _ (f.take l.length).length (fL (f.take l.length));rw[bo];exact(aH.zC su nC (Y.old A eg (by show A≠m;omega))).ext N
  refine⟨G.length-(j+1),ω,j+1,_,B++[sh A l.length cu],ω,rfl,rfl,rfl,W9,l9.trans (lP.trans lC),ω,λz y J=>(o9 z ω λq a c e s=> ?_).trans ((N.old z ω).trans ((Y.old z ω J).trans ((L.old z ω).trans ((X.old z ω).trans (oj z y J))))),⟨eK,(o9 m ω λq a c e s=> ?_).trans ((N.old m ω).trans cJ),dj⟩,?_⟩
  ·have:=kN EP.ow ⟨a,c,e⟩;omega
  ·have:=kN EP.ow ⟨a,c,e⟩;omega
  ·rw[dC];exact ElS.snoc (x:=ri w l ns f) EP ω f8 ω (λz _ D t=>o9 z D λq a c e s=>t ⟨a,c,s▸e⟩) fb ⟨ω,ω,f7⟩
 ·obtain rfl:j=G.length:=ω
  have eI:zd G.length G.length false:=dG ω;rw[wd]at O;refine Y16 ?_;have:=O.ow.slice (by rw[j3];omega);exact cW lj rfl ⟨v,rfl,B,O.len,this,λi u x h1 D=> .inl (O.el i u x h1 D).1⟩
end Go.A.Pk
end
section
namespace Go.A.Pk
variable {T:Nat->Option aq}
def GS(w:List Nat×List Nat)(n m:Nat):Bool:=decide (ij w.2<=40)&&(decide (n<=5)||decide (8<n/\n<=10))&&(decide (m<=3)||decide (6<m/\m<=8))
variable{m n:Nat}
def RC{w:List Nat×List Nat}(h:GS w n m=true):n<=10/\m<=8:=by
 unfold GS at h;simp only[gk,wp,decide_eq_true_eq]at h;omega
structure Uc (T:Nat->Option aq):Prop where
 p:aK T
 cr:Io T
 f25:T 4=some f25
 f84:T 12=some f84
def Yy(F:Uc T){h:Heap}(hr:Rdy h){w:List Nat×List Nat}(r:IsW w){a a2:Option Addr}{c c2:Nat}(A:n<4611686018427387904)(z:m<4611686018427387904):Pu T 4 [wV w, .slice a n c, .slice a2 m c2] h (.bool (GS w n m)):=by
 refine .of F.p F.f25 hr rfl ?_;have s:cellsOf (wV w)=wL w:=by show(wL w).toArray.toList=_;simp
 have u:Ext h (h.push (qt (cellsOf (wV w)))):=(Ext.refl h).push _;have y:(h.push (qt (cellsOf (wV w)))).get h.next=some (qt (wL w)):=by rw[s];exact z3 h _
 refine Y4 ?_;generalize(h.push (qt (cellsOf (wV w))))=H at*;have W:=u.wf hr.wf;have e:=u.log.trans hr.log;have B:cm 8 (bQ (0+8) (wL w))=us w.2:=D9 r;have v:=aN r.b.len;have C:=II F.cr F.f84 (h:=η H) (.of W) r.b;unfold GS;generalize ij w.2=k at*;by_cases c40:k<=40;case neg=>
  have d:(decide (k<=40)&&(decide (n<=5)||decide (8<n/\n<=10))&&(decide (m<=3)||decide (6<m/\m<=8)))=false:=by(try simp only[xx,xn,gk,wp,decide_eq_true_eq,decide_eq_false_iff_not]);omega
  rw[d];clear d;have x:zp k 40 false:=fE ω;refine Y4 ?_;refine FW.pu C ?_;refine Y34 ?_;exact an e rfl rfl
 have x:zp k 40 true:=fF ω;have i:n<=5∨(5<n/\n<=8)∨(8<n/\n<=10)∨10<n:=ω
 have f:m<=3∨(3<m/\m<=6)∨(6<m/\m<=8)∨8<m:=ω
 rcases i with hq|hq|hq|hq
 ·rcases f with hq2|hq2|hq2|hq2
  ·have d:(decide (k<=40)&&(decide (n<=5)||decide (8<n/\n<=10))&&(decide (m<=3)||decide (6<m/\m<=8)))=true:=by(try simp only[xx,xn,gk,wp,decide_eq_true_eq,decide_eq_false_iff_not]);omega
   rw[d];clear d;have g:zp n 5 true:=fF ω;have j:zp m 3 true:=fF ω;refine Y4 ?_;refine FW.pu C ?_;refine Y40 ?_;refine Y4 ?_;exact an e rfl rfl
  ·have d:(decide (k<=40)&&(decide (n<=5)||decide (8<n/\n<=10))&&(decide (m<=3)||decide (6<m/\m<=8)))=false:=by(try simp only[xx,xn,gk,wp,decide_eq_true_eq,decide_eq_false_iff_not]);omega
   rw[d];clear d;have g:zp n 5 true:=fF ω;have j:zp m 3 false:=fE ω;have o:zs m 6 false:=gT ω;refine Y4 ?_;refine FW.pu C ?_;refine Y40 ?_;refine Y9 ?_;exact an e rfl rfl
  ·have d:(decide (k<=40)&&(decide (n<=5)||decide (8<n/\n<=10))&&(decide (m<=3)||decide (6<m/\m<=8)))=true:=by(try simp only[xx,xn,gk,wp,decide_eq_true_eq,decide_eq_false_iff_not]);omega
   rw[d];clear d;have g:zp n 5 true:=fF ω;have j:zp m 3 false:=fE ω;have o:zs m 6 true:=fh ω;have t:zp m 8 true:=fF ω;refine Y4 ?_;refine FW.pu C ?_;refine Y40 ?_;refine Y12 ?_;exact an e rfl rfl
  ·have d:(decide (k<=40)&&(decide (n<=5)||decide (8<n/\n<=10))&&(decide (m<=3)||decide (6<m/\m<=8)))=false:=by(try simp only[xx,xn,gk,wp,decide_eq_true_eq,decide_eq_false_iff_not]);omega
   rw[d];clear d;have g:zp n 5 true:=fF ω;have j:zp m 3 false:=fE ω;have o:zs m 6 true:=fh ω;have t:zp m 8 false:=fE ω;refine Y4 ?_;refine FW.pu C ?_;refine Y40 ?_;refine Y12 ?_;exact an e rfl rfl
 ·have d:(decide (k<=40)&&(decide (n<=5)||decide (8<n/\n<=10))&&(decide (m<=3)||decide (6<m/\m<=8)))=false:=by(try simp only[xx,xn,gk,wp,decide_eq_true_eq,decide_eq_false_iff_not]);omega
  rw[d];clear d;have g:zp n 5 false:=fE ω;have l:zs n 8 false:=gT ω;refine Y4 ?_;refine FW.pu C ?_;refine Y40 ?_;refine Y4 ?_;exact an e rfl rfl
 ·rcases f with hq2|hq2|hq2|hq2
  ·have d:(decide (k<=40)&&(decide (n<=5)||decide (8<n/\n<=10))&&(decide (m<=3)||decide (6<m/\m<=8)))=true:=by(try simp only[xx,xn,gk,wp,decide_eq_true_eq,decide_eq_false_iff_not]);omega
   rw[d];clear d;have g:zp n 5 false:=fE ω;have l:zs n 8 true:=fh ω;have q:zp n 10 true:=fF ω;have j:zp m 3 true:=fF ω;refine Y4 ?_;refine FW.pu C ?_;refine Y40 ?_;refine Y12 ?_;exact an e rfl rfl
  ·have d:(decide (k<=40)&&(decide (n<=5)||decide (8<n/\n<=10))&&(decide (m<=3)||decide (6<m/\m<=8)))=false:=by(try simp only[xx,xn,gk,wp,decide_eq_true_eq,decide_eq_false_iff_not]);omega
   rw[d];clear d;have g:zp n 5 false:=fE ω;have l:zs n 8 true:=fh ω;have q:zp n 10 true:=fF ω;have j:zp m 3 false:=fE ω;have o:zs m 6 false:=gT ω;refine Y4 ?_;refine FW.pu C ?_;refine Y40 ?_;refine Y17 ?_;exact an e rfl rfl
  ·have d:(decide (k<=40)&&(decide (n<=5)||decide (8<n/\n<=10))&&(decide (m<=3)||decide (6<m/\m<=8)))=true:=by(try simp only[xx,xn,gk,wp,decide_eq_true_eq,decide_eq_false_iff_not]);omega
   rw[d];clear d;have g:zp n 5 false:=fE ω;have l:zs n 8 true:=fh ω;have q:zp n 10 true:=fF ω;have j:zp m 3 false:=fE ω;have o:zs m 6 true:=fh ω;have t:zp m 8 true:=fF ω;refine Y4 ?_;refine FW.pu C ?_;refine Y40 ?_;refine Y20 ?_;exact an e rfl rfl
  ·have d:(decide (k<=40)&&(decide (n<=5)||decide (8<n/\n<=10))&&(decide (m<=3)||decide (6<m/\m<=8)))=false:=by(try simp only[xx,xn,gk,wp,decide_eq_true_eq,decide_eq_false_iff_not]);omega
   rw[d];clear d;have g:zp n 5 false:=fE ω;have l:zs n 8 true:=fh ω;have q:zp n 10 true:=fF ω;have j:zp m 3 false:=fE ω;have o:zs m 6 true:=fh ω;have t:zp m 8 false:=fE ω;refine Y4 ?_;refine FW.pu C ?_;refine Y40 ?_;refine Y20 ?_;exact an e rfl rfl
 ·have d:(decide (k<=40)&&(decide (n<=5)||decide (8<n/\n<=10))&&(decide (m<=3)||decide (6<m/\m<=8)))=false:=by(try simp only[xx,xn,gk,wp,decide_eq_true_eq,decide_eq_false_iff_not]);omega
  rw[d];clear d;have g:zp n 5 false:=fE ω;have l:zs n 8 true:=fh ω;have q:zp n 10 false:=fE ω;refine Y4 ?_;refine FW.pu C ?_;refine Y40 ?_;refine Y7 ?_;exact an e rfl rfl
section
variable {w:List Nat×List Nat} {l:List Pb} {ns:List (List (List Nat))}
def PS(i:∀p∈l,1<=p.cost/\p.cost<=1000):∀{k:Nat} {f:List Nat} {a:Nat},l.length<=f.length->bB w l ns f<100000->(fC w l ns k f a).2.length<2 ^ (bM l.length f).length:=by
 intro k;induction k with
 |zero=>intro f a _ _;exact Nat.pow_pos ω
 |succ k ih=>
  intro f a h o;unfold fC;by_cases h0:bB w l ns f=0
  ·rw[if_pos h0];exact Nat.pow_pos ω
  ·rw[if_neg h0];obtain⟨c,g⟩:=AM i h h0 o;obtain⟨e,_⟩:=fJ.1 c;generalize gM (eV w l ns f) (bM l.length f)=b at*;have d:b<f.length:=ω
   have q:=lX (n:=l.length) (f:=f) (a:=1) d ω c;have r:=lX (n:=l.length) (f:=f) (a:=2) d ω c;have j:=(lH i e).1;unfold eV at g;have s:=ih (f:=f.set b 1) (a:=a+1) (by rw[hG];exact h) ω;have t:=ih (f:=f.set b 2) (a:=a+1+(fC w l ns k (f.set b 1) (a+1)).2.length) (by rw[hG];exact h) ω;have u:2 ^ (bM l.length (f.set b 1)).length<=2 ^ ((bM l.length f).length-1):=xl ω ω;have v:2 ^ (bM l.length (f.set b 2)).length<=2 ^ ((bM l.length f).length-1):=xl ω ω;have x:2 ^ (bM l.length f).length=2*2 ^ ((bM l.length f).length-1):=by
    obtain⟨n,m⟩:∃n,(bM l.length f).length=n+1:=⟨(bM l.length f).length-1,ω⟩;rw[m,Hc,Nat.add_sub_cancel];omega
   simp only[tb,dk];omega
end
def VS(w:List Nat×List Nat)(l:List Pb)(os:List (List Nat)):opE w l os≠81:=by
 have h:mM w l os=0∨mM w l os=1∨mM w l os=2:=by
  unfold mM prE;repeat' split
  all_goals omega
 unfold opE;split
 ·omega
 ·split<;>omega
structure VaK (w:List Nat×List Nat) (l:List Pb) (os:List (List Nat)):Prop where
 hw:IsW w
 l5:l.length<=5
 ok:opE w l os=0
 hc:∀p∈l,1<=p.cost/\p.cost<=1000
 hs:∀p∈l,IsS p.cells
def VaK.of{w:List Nat×List Nat}{l:List Pb}{os:List (List Nat)}(d:IsW w)(c:∀p∈l,IsS p.cells)(b:GS w l.length os.length=true)(h:opE w l os=0):VaK w l os:=by
 have a:=j5.1 (vw.1 h).1;refine⟨d,?_,h,qH a.2.2.2.2,c⟩;have:=a.2.2.2.1;unfold GS at b;simp only[gk,wp,decide_eq_true_eq]at b;omega
section
variable {w:List Nat×List Nat} {l:List Pb} {os:List (List Nat)}
def VaK.cost(K:VaK w l os):pI w l os=if 100000<=bB w l (os.map (cE w)) z8 then(0,81)else(bB w l (os.map (cE w)) z8,0):=by
 rw[nF,if_neg (λq=>q K.ok)]
def VaK.str(K:VaK w l os)(c:bB w l (os.map (cE w)) z8<100000):(oZ w l os).length<=31/\OZ w l (os.map (cE w)) (oZ w l os) (bB w l (os.map (cE w)) z8):=by
 have b:l.length<=8:=by have:=K.l5;omega
 unfold oZ;have d:(pI w l os).2=0:=by rw[K.cost,if_neg ω]
 rw[if_pos d];refine⟨?_,Wx K.hc b c (ab6 _)⟩;have e:=PS (w:=w) (ns:=os.map (cE w)) K.hc (k:=10) (f:=z8) (a:=0) b c;have g:2 ^ (bM l.length z8).length<=2 ^ 5:=xl ω (by have:=jQ l.length z8;have:=K.l5;omega);unfold DU;have:(2:Nat) ^ 5=32:=by decide
 omega
def VaK.adv(K:VaK w l os){cost:Int}(d:cost<=bB w l (os.map (cE w)) z8)(b:bB w l (os.map (cE w)) z8=0->cost<=0):(vW w l os).length<=243/\(∀x∈vW w l os,x.found.length<=8)/\JK w l (os.map (cE w)) (vW w l os) cost:=by
 have c:l.length<=8:=by have:=K.l5;omega
 unfold vW;by_cases hv:bB w l (os.map (cE w)) z8=0
 ·rw[if_neg (λe=>e.2 hv)];exact⟨by decide,λx a=>(by cases a),⟨⟨λx a=>(by cases a),λi x y h=>(by simp at h)⟩,λx a=>(by cases a), .inl (b hv)⟩⟩
 ·rw[if_pos ⟨K.ok,hv⟩];refine⟨?_,λx a=> ?_,Rb K.hw K.hs K.hc c d⟩
  ·have g:=CD (w:=w) (l:=l) (ns:=os.map (cE w)) (k:=l.length) (i:=0) (f:=z8);have j:3 ^ l.length<=3 ^ 5:=xl ω K.l5;unfold Cn;rw[j3];have:(3:Nat) ^ 5=243:=by decide
   omega
  ·unfold Cn at a;obtain⟨f,_,rfl⟩:=List.mem_map.1 a;show(f.take l.length).length<=8;rw[lp];omega
end
structure LC (T:Nat->Option aq):Prop where
 co:Ug T
 fe:Uc T
 av:Ly T
 st:Uo T
 r28:LJ T
 r30:LK T
 r57:Gx T
 f12:T 3=some f12
 f21:T 5=some (.mW pSd)
def Ba{w:List Nat×List Nat}{l:List Pb}{ns:List (List (List Nat))}{s:List Sta}{cost:Int}(h:JK w l ns s cost):∀x∈s,∀k∈x.found,k<256:=λx b k a=>by
 have:=(h.1.1 x b).2.1 k a;omega
def YN(F:LC T){h:Heap}(hr:Rdy h)(hg:Tab h)(h2:0<h.next){w:List Nat×List Nat}(g:IsW w){pv:Value}{l:List Pb}(sp:PbS h pv l)(bo:l.length<4611686018427387904){ov:Value}{os:List (List Nat)}(so:SsQ h ov os)(cd:os.length<4611686018427387904):
 Pu T 3 [wV w,pv,ov] h (.bool true):=by
 have hp:=F.fe.p;refine .of hp F.f12 hr rfl ?_;have cj:cellsOf (wV w)=wL w:=by show(wL w).toArray.toList=_;simp
 obtain⟨a,c,rfl⟩:=sp.form;obtain⟨a2,c2,rfl⟩:=so.sl.form;refine cQ (E0:=[(1, .slice a l.length c),(2, .slice a2 os.length c2),(3, sb h.next)]) (P:=λN=>Ext h N∧N.next=h.next+1/\N.get h.next=some (qt (wL w))) ?_ ?_
 ·refine Y3 ?_;refine bA ?_;refine y1 ?_;rw[cj];exact⟨rfl,rfl,rfl,(Ext.refl h).push _,rfl,z3 _ _⟩
 rintro H ⟨x0,n0,g7⟩;have W:=x0.wf hr.wf;have hL:=x0.log.trans hr.log;have wk:=ja g;have du:=gu g;have k:Tab H:=hg.ext x0 h2;have t:=sp.ext x0;have r:=so.ext x0;have L:=Yy F.fe (h:=η H) (.of W) g (a:=a) (n:=l.length) (c:=c) (a2:=a2) (m:=os.length) (c2:=c2) bo cd;cases hfb:GS w l.length os.length with
 |false=>
  have J:Pu T 5 [] (η H) (.bool true):=Zd F.f21 (show Tab H from k);rw[hfb]at L;refine Y6 ?_;refine FW.pu L ?_;refine Y5 ?_;refine FW.pu J ?_;refine Y4 ?_;exact an hL rfl rfl
 |true=>
 have d9:=RC hfb;rw[hfb]at L;have C2:=U2 F.co (h:=η H) (.of W) (show Tab H from k) (by show 0<H.next;omega) g (t.log []) ω (r.log []) ω;have C3:=Tg F.r57 (h:=η H) (.of W) g (t.log []) ω (r.log []) ω;have C4:=Ib F.st (h:=η H) (.of W) (show Tab H from k) (by show 0<H.next;omega) g (t.log []) ω (r.log []) ω;refine Y6 ?_;refine FW.pu L ?_;clear L;refine Y10 ?_;refine FW.pu C2 ?_;clear C2;refine Y11 ?_;refine FW.pu C3 ?_;clear C3;refine Y11 ?_;refine FW.al C4 (λv N lg ⟨v1,i,C⟩=>⟨v1,i,C.log lg⟩) ?_;clear C4;rintro _ M I ⟨u,rfl,B1⟩;have n1:=I.next
 have W1:=I.wf W;have aE:=I.log.trans hL;have O:Tab M:=k.ext I ω;have ar:=(I.old _ ω).trans g7;have ae:=t.ext I;have Z:=r.ext I;have B1:FkS M u (oZ w l os):=B1.slice (by
  unfold oZ;split
  ·rename_i hE;by_cases he:opE w l os=0
   ·have K:=VaK.of g sp.ok hfb he;have hV:bB w l (os.map (cE w)) z8<100000:=by
     by_cases q:100000<=bB w l (os.map (cE w)) z8
     ·rw[K.cost,if_pos q]at hE;cases hE
     ·omega
    have:=(K.str hV).1;unfold oZ at this;rw[if_pos (by rw[K.cost,if_neg ω])]at this;omega
   ·rw[nF,if_pos he]at hE;exact absurd hE he
  ·show(0:Nat)<_;omega)
 obtain⟨a5,c5,hu⟩:=aH.form B1;subst hu;have C5:=Et F.av (h:=η M) (.of W1) (show Tab M from O) (by show 0<M.next;omega) g (ae.log []) ω (Z.log []) ω;refine Y11 ?_;refine FW.al C5 (λv N lg ⟨v1,i,C⟩=>⟨v1,i,C.log lg⟩) ?_;clear C5;rintro _ B y ⟨u,rfl,O2⟩;have n2:=y.next
 have W2:=y.wf W1;have j:=y.log.trans aE;have be:Tab B:=O.ext y ω;have cX:=(y.old _ ω).trans ar;have G:=ae.ext y;have E:=Z.ext y;have B2:FkS B (.slice a5 (oZ w l os).length c5) (oZ w l os):=aH.ext B1 y;obtain⟨a6,c6,hu⟩:=O2.form;subst hu;have J:Pu T 5 [] (η B) (.bool true):=Zd F.f21 (show Tab B from be);have d:∀q:Int,zB q q false:=λq=>uv rfl;have o:∀q:Int,zz q q true:=λq=>ur rfl;by_cases he:opE w l os=0;case neg=>
  have i:oZ w l os=[]:=by unfold oZ;rw[nF,if_pos he,if_neg he]
  have C:vW w l os=[]:=by unfold vW;rw[if_neg (λq=>he q.1)]
  have aw:=VS w l os;rw[nF,if_pos he,i,C];generalize opE w l os=er at*;have m0:zB er 0 true:=iY he;have dj:zz er 81 false:=jH aw;have mn:=d er;have me:=o er;have Y:=d 0;clear d o;refine Y40 ?_;refine Y7 ?_;refine FW.pu J ?_;refine Y14 ?_;refine aG (rD ρ ρ (by exact xh)) ?_;refine Y7 ?_;refine aG (rD ρ ρ (by exact xh)) ?_;refine Y5 ?_;exact an j rfl rfl
 have K:=VaK.of g sp.ok hfb he;have h8:l.length<=8:=by have:=K.l5;omega
 rw[he];by_cases hge:100000<=bB w l (os.map (cE w)) z8
 ·have da:bB w l (os.map (cE w)) z8=100000:=by have:=(gr (w:=w) (ns:=os.map (cE w)) (hc0 K.hc) z8).2;omega
  have i:oZ w l os=[]:=by unfold oZ;rw[K.cost,if_pos hge,if_neg (by decide)]
  obtain⟨ba,D,f⟩:=K.adv (cost:=100000) hge (λq=>ω);have C6:=FZ F.r30 (h:=η B) (.of W2) g (G.log []) ω (E.log []) ω (O2.log []) ω (λx X=>⟨by have:=D x X;omega,Ba f x X⟩) 100000 (b:=true) (by simp only[true_iff];exact f);have e6:caR w l os (vW w l os) true=(true,0):=by unfold caR;rw[if_neg (λq=>q he),if_neg ω]
  rw[e6]at C6;dsimp only at C6;rw[K.cost,if_pos hge,i];have Y:=d 0;have cJ:=d 81;clear d o f e6;refine Y40 ?_;refine Y3 ?_;refine FW.pu C6 ?_;clear C6;refine Y8 ?_;refine FW.pu J ?_;refine Y22 ?_;refine aG (rD ρ ρ (by exact xh)) ?_;refine Y5 ?_;exact an j rfl rfl
 have bj:bB w l (os.map (cE w)) z8<100000:=ω
 have U:=K.str bj;have S:=(SR (s:=oZ w l os) (ns:=os.map (cE w)) (hc0 K.hc)).1 U.2;obtain⟨ba,D,f⟩:=K.adv (cost:=bB w l (os.map (cE w)) z8) (ab6 _) (λq=>ω);have cY:0<=bB w l (os.map (cE w)) z8:=(gr (hc0 K.hc) z8).1;have Q:bB w l (os.map (cE w)) z8=0->oZ w l os=[]/\vW w l os=[]:=λq=>by
  refine⟨?_,?_⟩
  ·unfold oZ;split
   ·exact Tw q
   ·rfl
  ·unfold vW;rw[if_neg (λe=>e.2 q)]
 have e7:Mz w l os (oZ w l os) true=(true,0):=by unfold Mz;rw[if_neg (λq=>q he),if_neg ω]
 have e8:caR w l os (vW w l os) true=(true,0):=by unfold caR;rw[if_neg (λq=>q he),if_neg ω]
 rw[K.cost,if_neg hge];have z:=Pr F.r28 (h:=η B) (.of W2) g (G.log []) ω (E.log []) ω (aH.log B2 []) ω (cost:=bB w l (os.map (cE w)) z8) ω (b:=true) (by simp only[true_iff];exact S);have A:=FZ F.r30 (h:=η B) (.of W2) g (G.log []) ω (E.log []) ω (O2.log []) ω (λx X=>⟨by have:=D x X;omega,Ba f x X⟩) (bB w l (os.map (cE w)) z8) (b:=true) (by simp only[true_iff];exact f);rw[e7]at z;rw[e8]at A;dsimp only at z A;clear f U S e7 e8;generalize bB w l (os.map (cE w)) z8=V at*;have Y:=d 0;have dp:=d V;clear d o;by_cases hv0:V=0
 ·obtain⟨i,C⟩:=Q hv0;subst hv0;rw[i]at z⊢;rw[C]at A⊢;refine Y40 ?_;refine Y14 ?_;refine FW.pu z ?_;clear z;refine Y13 ?_;refine FW.pu A ?_;clear A;refine Y8 ?_;refine FW.pu J ?_;refine Y38 ?_;refine aG (rD ρ ρ (by exact xh)) ?_;refine Y7 ?_;refine aG (rD ρ ρ (by exact xh)) ?_;refine Y8 ?_;exact an j rfl rfl
 ·have mg:zs V 0 true:=fh ω;refine Y40 ?_;refine Y14 ?_;refine FW.pu z ?_;clear z;refine Y13 ?_;refine FW.pu A ?_;clear A;refine Y8 ?_;refine FW.pu J ?_;refine Y40 ?_;refine Y7 ?_;exact an j rfl rfl
end Go.A.Pk
end
section
namespace Go.A.Pk
open Go Go.Proofs Go.Joins Go.ChangeShapes Go.WideShapes Go.RowKit Go.Deep

section
variable {H:Type} {enc:TypeId×Value->H} {W:World} {base:Nat} {spare:Nat->Bool} {held:Bool}
def Ro:Tryz.prog.cellsOf 26=16:=by kernel_rfl
def Ig{a:Nat}{cs:List Value}{x:DataW H×List MemPlace}(h:DataW.trod enc Tryz.prog W base spare held a 26 cs=some x):∃w:List Nat×List Nat,IsW w/\cs=wL w:=by
 obtain⟨m,n,_,o,b,c,d⟩:=DataW.trod_struct Tryz.underlying26 h;rw[Ro]at b
 match cs,b with
 |[c0,c1,c2,c3,c4,c5,c6,c7,c8,c9,c10,c11,c12,c13,c14,c15],_=>
  match m,c with
  |[yq0,yq1],_=>
   have i:DataW.trod enc Tryz.prog W base spare held n 24 [c0,c1,c2,c3,c4,c5,c6,c7]=some yq0:=by have:=d 0 _ rfl;simpa[uS]using this
   have j:DataW.trod enc Tryz.prog W base spare held n 24 [c8,c9,c10,c11,c12,c13,c14,c15]=some yq1:=by have:=d 1 _ rfl;simpa[uS]using this
   obtain⟨s0,k,f⟩:=oI i;obtain⟨e,l,g⟩:=oI j;refine⟨(s0,e),⟨k,l⟩,?_⟩;show _=us s0++us e;rw[←f,←g];rfl
def KF{v:Value}{d:DataW H}{p:List MemPlace}(g:Value.okWide Tryz.prog W .any base 26 v)(h:DataW.Trod enc Tryz.prog W 0 spare held 26 v d p):∃w:List Nat×List Nat,IsW w/\v=wV w:=by
 obtain⟨b,rfl,_⟩:=okWide_struct Tryz.underlying26 g;obtain⟨a,f⟩:=h;have f:DataW.trod enc Tryz.prog W 0 spare held a 26 b.toList=some (d,p):=by simpa[Value.cells]using f
 obtain⟨w,i,e⟩:=Ig f;refine⟨w,i,?_⟩;have c:b=b.toList.toArray:=by simp
 rw[c,e];rfl
end
def E3{α:Type}{cL:α->List Value}{k:Nat}:∀{l:List α},(∀a∈l,(cL a).length=k)->(l.flatMap cL).length=l.length*k
 |[],_=>by simp
 |a::l,h=>by
  rw[List.flatMap_cons,dk,h a b7,E3 λx hx=>h x (bz _ hx),tb,Bo];omega
def EZ{α:Type}{cL:α->List Value}{k:Nat}:∀{l:List α} {i j:Nat} {a:α},(∀a∈l,(cL a).length=k)->l[i]? =some a->j<k->(l.flatMap cL)[i*k+j]? =(cL a)[j]?
 |[],i,j,a,_,h,_=>by simp at h
 |b::l,0,j,a,hl,h,hj=>by
  simp at h;subst h;rw[List.flatMap_cons,I0,hF,oB (by rw[hl b b7];exact hj)]
 |b::l,i+1,j,a,hl,h,hj=>by
  have hb:=hl b b7;rw[List.flatMap_cons,hX (by rw[hb,Bo];omega),hb,show(i+1)*k+j-k=i*k+j by rw[Bo];omega];exact EZ (λx c=>hl x (bz _ c)) (by simpa using h) hj
section
variable {H:Type} {enc:TypeId×Value->H} {W:World} {base:Nat} {held:Bool}
variable{v:Value}{d:DataW H}{p:List MemPlace}
def zW{α:Type}[Inhabited α]{st M k q:Nat}(K:Tryz.prog.underlying st=some (.slice M))(hk:Tryz.prog.cellsOf M=k)(w:0<k)(T:Tryz.prog.bytesOf M=q)(S:0<q)(ok:α->Prop)(cL:α->List Value)(z:∀a,ok a->(cL a).length=k)(X:∀a,∀v∈cL a,dA v=true)
 (U:∀{s:Nat} {cs:List Value} {x:DataW H×List MemPlace},DataW.trod enc Tryz.prog W 0 (λ_=>true) held s M cs=some x->∃a,ok a/\cs=cL a)
 (O:Value.okWide Tryz.prog W .any base st v)(h:DataW.Trod enc Tryz.prog W 0 (λ_=>true) held st v d p)(hz:∀n∈d.weights Tryz.prog st,n<=reachBytes):∃l:List α,kr W k v l.length (l.flatMap cL)/\∀a∈l,ok a:=by
 have t:Cell.okWide Tryz.prog W .any base st v:=by
  simpa only[Value.okWide,K]using O
 obtain⟨a0,e,F,rfl⟩:=okWide_slice K O;obtain⟨s,E⟩:=h;have E:DataW.trod enc Tryz.prog W 0 (λ_=>true) held s st [.slice a0 e F]=some (d,p):=by simpa[Value.cells]using E
 rcases open_slice K E with⟨h2,_⟩|⟨a,len,cap,m,n',D,Pl,h2,_,hl,hcap,hm,hy,C⟩
 ·cases h2;exact⟨[], .nil,λx C=>by cases C⟩
 ·cases h2;simp only[Cell.okWide,Cell.ok,K,World.has]at t;obtain⟨_,_,_,u,row,P,y,_⟩:=t;obtain⟨b,o,sp⟩:=a;simp only at u y;subst u;rw[if_pos rfl]at hm;subst hm;have A:m*q<=reachBytes:=by
   refine hz (m*q) ?_;cases hy;simp only[DataW.weights,K,T,j3,List.length_range,show e+(m-e)=m by omega];simp
  have J:m<UNK:=by
   have:m*1<=m*q:=Ok _ S;unfold reachBytes at A;unfold UNK;omega
  obtain⟨c,L,N,g⟩:∃c L N,W.heap[b]? =some (.cells c L N):=by
   unfold World.shape? at y;split at y
   ·rename_i c L N he;exact⟨c,L,N,he⟩
   ·cases y
  obtain⟨f,E⟩:=choose_lt (α:=α) (n:=e) (p:=λi x=>ok x/\∀j,j<k->c[o+(i*k+j)]? =(cL x)[j]?) (λi hi=>by
   obtain⟨ae,hc,ht⟩:=C i ω;obtain⟨x,Y,Z⟩:=U ht;subst Z;refine⟨x,Y,λj V=> ?_⟩;rw[hk]at hc;obtain⟨_,_,Q⟩:=World.cells?_some hc;have:=Q j V;rw[add_eq,add_eq]at this;rw[←this,Hd];unfold World.cell?;simp only[g];rfl)
  by_cases h0:e=0
  ·subst h0;exact⟨[], .empty g J,λx C=>by cases C⟩
  ·have I:((List.range e).map f).length=e:=by simp
   have B:∀r∈(List.range e).map f,ok r:=λx C=>by
    obtain⟨i,hi,rfl⟩:=List.mem_map.1 C;exact(E i (List.mem_range.1 hi)).1
   refine⟨(List.range e).map f,?_,B⟩;rw[I];refine .full g h0 (by rw[E3 λa G=>z a (B a G),I]) w hl J (λj V=> ?_) (λv O=> ?_)
   ·have h5:j / k<e:=by rw[Nat.div_lt_iff_lt_mul w];exact V
    have e1:j=j / k*k+j % k:=(Nat.div_add_mod' j k).symm;have g1:=(E (j / k) h5).2 (j % k) (Nat.mod_lt _ w);have g2:=EZ (cL:=cL) (k:=k) (l:=(List.range e).map f) (i:=j / k) (j:=j % k) (a:=f (j / k)) (λa G=>z a (B a G)) (by simp[h5]) (Nat.mod_lt _ w);rw[←e1]at g1 g2;rw[g1,g2]
   ·obtain⟨a,_,G⟩:=List.mem_flatMap.1 O;exact X a v G
def ID:Tryz.prog.cellsOf 80=9:=by kernel_rfl
def FP{b:Nat}{cs:List Value}{a:Nat->Bool}{x:DataW H×List MemPlace}(h:DataW.trod enc Tryz.prog W base a held b 80 cs=some x):∃p:Pb,IsS p.cells/\cs=pbL p:=by
 obtain⟨o,n,_,q,c,d,e⟩:=DataW.trod_struct Tryz.underlying80 h;rw[ID]at c
 match cs,c with
 |[c0,c1,c2,c3,c4,c5,c6,c7,c8],_=>
  match o,d with
  |[y0,y1],_=>
   have i:DataW.trod enc Tryz.prog W base a held n 24 [c0,c1,c2,c3,c4,c5,c6,c7]=some y0:=by have:=e 0 _ rfl;simpa[uS]using this
   have j:DataW.trod enc Tryz.prog W base a held n 3 [c8]=some y1:=by have:=e 1 _ rfl;simpa[UZ]using this
   obtain⟨f,m,k⟩:=oI i;obtain⟨g,l,_⟩:=DataW.trod_int Tryz.underlying3 j;cases l;refine⟨⟨f,g⟩,m,?_⟩;show _=us f++[_];rw[←k];rfl
def FB(s:List Nat):∀v∈us s,dA v=true:=λv a=>by
 obtain⟨n,_,rfl⟩:=List.mem_map.1 a;rfl
def Ko(p:Pb):∀v∈pbL p,dA v=true:=λv a=>by
 rcases List.mem_append.1 a with q|q
 ·exact FB _ v q
 ·rw[List.mem_singleton.1 q];rfl
instance:Inhabited Pb:=⟨⟨[],0⟩⟩
def Up(W:World)(v:Value)(l:List Pb):Prop:=kr W 9 v l.length (Dh l)/\∀p∈l,IsS p.cells
def FG(a:Value.okWide Tryz.prog W .any base 27 v)(h:DataW.Trod enc Tryz.prog W 0 (λ_=>true) held 27 v d p)(b:∀n∈d.weights Tryz.prog 27,n<=reachBytes):∃l,Up W v l:=
 zW (α:=Pb) Tryz.underlying27 ID (by decide) (show Tryz.prog.bytesOf 80=72 by kernel_rfl) (by decide) (λp=>IsS p.cells) pbL (λp h=>lQ h) Ko (λh=>FP h) a h b
def Xr(W:World)(v:Value)(l:List (List Nat)):Prop:=kr W 8 v l.length (ssL l)/\∀s∈l,IsS s
def FH(a:Value.okWide Tryz.prog W .any base 28 v)(h:DataW.Trod enc Tryz.prog W 0 (λ_=>true) held 28 v d p)(b:∀n∈d.weights Tryz.prog 28,n<=reachBytes):∃l,Xr W v l:=
 zW (α:=List Nat) Tryz.underlying28 uS (by decide) (show Tryz.prog.bytesOf 24=64 by kernel_rfl) (by decide) IsS us (λp h=>by rw[aF,h.len]) FB (λh=>oI h) a h b
end
def Vm{W:World}{G:Gl}(e:yh W G){z1 l z2 m z3 n3:Nat}{q r s:Value}{c1 c2 p:List Value}(h1:kr W z1 q l c1)(t:kr W z2 r m c2)(u:kr W z3 s n3 p):
 ∃(h:Heap) (μ:Mu),R Tryz.prog μ h W/\(∀b o,h.get b=some o->o.ro=true∨o.live=false)/\Rdy h/\1000<=h.next/\(∀g n,(g,n)∈G->h.get g=some (.cells n false 1))∧
 (∃a c,VR μ (.slice a l c) q/\aH h z1 (.slice a l c) l c1/\c<UNK)/\(∃a c,VR μ (.slice a m c) r/\aH h z2 (.slice a m c) m c2/\c<UNK)/\(∃a c,VR μ (.slice a n3 c) s/\aH h z3 (.slice a n3 c) n3 p/\c<UNK):=by
 obtain⟨i,w,z⟩:=h1.lay e;obtain⟨j,x,D⟩:=t.lay e;obtain⟨k,y,E⟩:=u.lay e;have f:∀(A B C:List Ob) (o:Ob),B[0]? =some o->(A++B++C)[A.length]? =some o:=λA B C o d=>by
  have v:=(List.getElem?_eq_some_iff.1 d).1;rw[At,hX (bl _),J0,oB v];exact d
 refine⟨obH G (i++j++k),obM G (i++j++k),R.obs e λo d=> ?_,VO e,Su e _,xp _ _,λg n h=>VN e _ h,z _ 0 λo d=> ?_,D _ i.length (f i j k),E _ (i++j).length λo d=> ?_⟩
 ·rcases List.mem_append.1 d with d|d
  ·rcases List.mem_append.1 d with d|d
   ·exact w _ o d
   ·exact x _ o d
  ·exact y _ o d
 ·have:=f [] i (j++k) o d
  rwa [D4,←List.append_assoc]at this
 ·have:=f (i++j) k [] o d
  rwa [wl]at this
end Go.A.Pk
end
section
namespace Go.A.Pk
open Go Go.Proofs
def YE:qe.h0=Kv 0 (EL.map λn=> .int .u8 (n:Nat)) 1000:=by kernel_rfl
def abu:Entry Tryz.prog 5 (.mW pSd):= .mW (O1 sound (g:=0) (n:=1000) (vs:=EL.map λn=> .int .u8 (n:Nat)) Tryz.func5 (of_decide_eq_true (by kernel_rfl)) (by kernel_rfl) pM (by decide) (by kernel_rfl) (by kernel_rfl) λc v h e b=>by
 unfold pSd at b;split at b
 ·split at b
  ·rename_i hT;cases b;refine⟨rfl,hT,λa d=>(nomatch d),rfl,?_⟩;rw[←YE];exact qe.run
  ·cases b
 ·cases b)
end Go.A.Pk
end
