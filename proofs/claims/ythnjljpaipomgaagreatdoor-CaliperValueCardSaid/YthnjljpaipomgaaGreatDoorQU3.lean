/- Walks of functions, plain laws, the table. -/
import Derived.Test.YthnjljpaipomgaaGreatDoorQU2
import Derived.Test.YthnjljpaipomgaaGreatDoorQU1
import Derived.Test.YthnjljpaipomgaaGreatDoorQF
import Derived.Shelf.SlSortCmp.NoneTotal
import Derived.Test.YthnjljpaipomgaaGreatDoorProg
import Derived.Test.YthnjljpaipomgaaGreatDoorQH
import Derived.KernelRfl
import Derived.Test.YthnjljpaipomgaaGreatDoorQD
set_option linter.all false
set_option maxHeartbeats 16000000
set_option maxRecDepth 100000
section
namespace Go.A.Pk
variable {T:Nat->Option aq}
inductive OwE (lo:Nat) (h:Heap) (sz:Nat):Value->Nat->List Value->Prop
 |own {v n cs}:Own lo h sz v n cs->OwE lo h sz v n cs
 |lit {b}:lo<=b->b<h.next->h.get b=some (.cells [] true sz)->OwE lo h sz (.slice (some ⟨b,0,none⟩) 0 0) 0 []
end Go.A.Pk
end
section
namespace Go.A.Pk
variable {T:Nat->Option aq}
theorem Ns{base:Nat}{rnd:Option Nat}{Q:XQ}{e:Env}{k:Dfs}{h:Heap}{lo sz a n:Nat}{dst:Option Nat}{os:List aP}{x y:Operand}{v u:Value}{cs c1:List Value}(s:Own lo h sz v n cs)(A:n<1000000)(j:0<sz)(hb:a<=100000)
 (r:ev h e x=some v)(t:ev h e y=some u)(p:dn h sz u=some (c1,1))(g:c1.length=sz)(h1:eC c1=true)
 (l:∀h',Own h.next h' sz (.slice (some ⟨h.next,0,none⟩) (n+1) UNK) (n+1) (cs++c1)->h'.next=h.next+1->(∀z∈h'.log,lo<=z∨z∈h.log)->(WF h->WF h')->(∀z,z<h.next->(∀m c,v≠ .slice (some ⟨z,0,none⟩) m c)->h'.get z=h.get z)->WO T base rnd Q os (bN e dst (.slice (some ⟨h.next,0,none⟩) (n+1) UNK)) k h'):
 WO T base rnd Q (⟨dst, .append sz a x y,none⟩::os) e k h:=by
 have f:(2*(n+1)+768)*a<=281474976710656:=by
  have:(2*(n+1)+768)*a<=2000768*100000:=Do (by omega) hb;omega
 cases s with
 |nil=>
  refine aG (nD (n:=1) r t p (by omega) (by simpa using f) rfl) ?_;exact l _ (Own.full (lo:=h.next) (h:=h.push (.cells c1 true sz)) (sz:=sz) (q:=h.next) (n:=1) (cs:=c1) (bl _) (go _) (z3 _ _) (by omega) (by omega)) rfl (λz d=> .inr d) (λw=>w.push _) (λz d _=>z4 d)
 | @full q _ _ q1 q2 q3 q4 q5=>
   refine aG (jZ (n:=1) (vs:=cs) (ws:=cs++c1) r t p (by omega) q3 q4 j h1 f (dI _ _)) ?_;exact l _ (.full (bl _) (go _) (z3 _ _) (by rw[ec,q4,g,sx,A3]) (by omega)) rfl (λz d=>by
    rcases dy (b:=q) (o:= .dead) d with rfl|d
    ·exact .inl q1
    ·exact .inr d) (λw=>(w.as (AS.wr base _ q .dead)).push _) (λz d i=>(z4 (by exact d)).trans (z5 (λe=>i n UNK (by subst e;rfl))))
section
open I
def zq:aN:=I.R [g 8 (.new (aR 8 (.int .u64 0))),S 8 8 16] [6,8]
def zv:aN:= .block 1 (I.R [L 17 6,N 18 8 8,g 19 (.dw (aR 8 (.int .u64 0)) 1 [(0,8,(t 18))]),g 20 (.append 8 64 (t 17) (t 19)),S 1 6 20] [])
end
variable{lo:Nat}{v:Value}
theorem DC(hp:aF T){H:Heap}(hr:Rdy H){q l lo2:Nat}{P:Value}{ss:List (List Nat)}{f:Fi}(g:IsS f.s)(hm:ss.length<1000000)(E:lo<=q)
 (gl:H.get l=some (.loop [(6, .pointer (some ⟨q,0,none⟩)),(14,P)] [15,16] zq zv 0 .normal))
 (k:H.get q=some (.cells [v] true 1))(own:Own lo2 H 8 v ss.length (ssL ss))(t:lo<=lo2)(aw:q<lo2)(ar:l<lo2)(ae:lo2<=H.next):
 FW T (.yield l) (fiV f) H λr b=>r= .ret (.bool true)/\(∀z∈b.log,lo<=z)/\q∈b.log/\∃p,b.get q=some (.cells [.slice (some ⟨p,0,none⟩) (ss.length+1) UNK] true 1)/\H.next<=p/\Own lo2 b 8 (.slice (some ⟨p,0,none⟩) (ss.length+1) UNK) (ss++[f.s]).length (ssL (ss++[f.s]))/\(∀z,z<H.next->z≠q->(∀m c,v≠ .slice (some ⟨z,0,none⟩) m c)->b.get z=H.get z)/\WF b∧H.next<=b.next/\p<b.next:=by
 have y:q≠l:=λe=>by subst e;rw[k]at gl;cases gl
 have Q:=hr.wf.bP k;have kl:=hr.wf.bP gl;have G:∀m c,v≠ .slice (some ⟨l,0,none⟩) m c:=λm c e=>by
  rw[e]at own;generalize hn:ss.length=n at own;generalize ssL ss=cs at own;cases own with
  |full B=>omega
 have I:∀m c,v≠ .slice (some ⟨q,0,none⟩) m c:=λm c e=>by
  rw[e]at own;generalize hn:ss.length=n at own;generalize ssL ss=cs at own;cases own with
  |full B=>omega
 refine FW.NI hp (q:=q) (R:=λb=>∃p,b.get q=some (.cells [.slice (some ⟨p,0,none⟩) (ss.length+1) UNK] true 1)/\H.next<=p/\Own lo2 b 8 (.slice (some ⟨p,0,none⟩) (ss.length+1) UNK) (ss++[f.s]).length (ssL (ss++[f.s]))/\(∀z,z<H.next->z≠q->(∀m c,v≠ .slice (some ⟨z,0,none⟩) m c)->b.get z=H.get z)/\WF b∧H.next<=b.next/\p<b.next) gl rfl kl Q y ?_;have k8:=bR g.len;have k9:=cS g.len;have aE:=g.len;unfold zq;refine Y2 ?_;refine aG (dg (by exact rfl) (by exact rfl) YG (by(simp only[aK];assumption)) (by exact rfl) (by exact dQ _)) ?_;refine bH ?_;refine y1 ?_;refine⟨rfl,YG,?_⟩;unfold zv;refine lF ?_;refine WE.vh ?_;intro a d;have A:∀z,z<H.next->z≠l->H.get z=a.get z:=λz i u=>by rw[d];symm;simp(disch:=first|omega|(simp only[z1,z2];omega))only[z5,z4]
 have M:a.get H.next=some (.cells (us f.s) true 1):=by rw[d];(simp(disch:=first|omega|(simp only[z1,z2];omega))only[z3,z4,z5,z6,z7,z1,z2,gl,k];done)
 have L:a.get l=some (.loop [(6, .pointer (some ⟨q,0,none⟩)),(14,P)] [15,16] zq zv 1 .normal):=by rw[d];(simp(disch:=first|omega|(simp only[z1,z2];omega))only[z3,z4,z5,z6,z7,z1,z2,gl,k,M];exact rfl)
 have A5:a.next=H.next+1:=by rw[d];rfl
 have U:a.log=[]:=by rw[d];simp(disch:=first|omega|(simp only[z1,z2];omega))only[Heap.aD,Heap.wO];exact hr.log
 have V:WF a:=by rw[d];exact(((hr.wf.push _).as (AS.wr _ _ _ _)).as (AS.wr _ _ _ _))
 clear d;have N:=(A q Q y).symm.trans k;have F:ssL [f.s]=us f.s:=by simp[ssL]
 have x:Own lo2 a 8 v ss.length (ssL ss):=own.keep (by omega) λz i J=>(A z J (by omega)).symm;clear k;refine Y3 ?_;refine aG (iu (On g (by exact rfl)) (show cF (aR 8 (Value.int IntKind.u64 0))=8 from rfl)) ?_;refine Ns (lo:=lo2) (c1:=us f.s) (x.ext ((Ext.refl a).push _)) hm (by omega) (by omega) (by exact rfl) (by exact rfl) (jy (cs:=us f.s) YG k9 (by rw[aK,g.len])) (by rw[aK,g.len]) (dQ _) ?_;intro j h S K w3 w;have h:Own (H.next+2) j 8 (.slice (some ⟨H.next+2,0,none⟩) (ss.length+1) UNK) (ss.length+1) (ssL ss++us f.s):=by
  have e:(a.push (.cells (us f.s) true 8)).next=H.next+2:=by show a.next+1=_;omega
  rw[←e];exact h
 have S:j.next=H.next+3:=by rw[S];show a.next+1+1=_;omega
 have K:∀z∈j.log,lo2<=z:=λz i=>(K z i).elim id λe=>by
  have e:z∈a.log:=e;rw[U]at e;cases e
 have w:∀z,z<H.next+1->(∀m c,v≠ .slice (some ⟨z,0,none⟩) m c)->j.get z=a.get z:=λz i u=>(w z (by show z<a.next+1;omega) u).trans (z4 (by omega))
 have X:WF j:=w3 (V.push _);have Y:∀o,(a.push o).next=H.next+2:=λo=>by show a.next+1=_;omega
 rw[Y];have O:=(w q (by omega) I).trans N;have W:=(w l (by omega) G).trans L;have C:ssL (ss++[f.s])=ssL ss++us f.s:=by rw[vF,F]
 have D:(ss++[f.s]).length=ss.length+1:=by simp
 clear N M L;refine yS ?_;refine bH ?_;refine Y2 ?_;refine⟨rfl,⟨_,YG,rfl⟩,λz i=> ?_,oP (by omega),⟨_,_,_,Heap.aI O,rfl⟩,H.next+2,(z5 y).trans (Heap.aI O),by omega,?_,λz i B Z=> ?_,?_,?_,?_⟩
 ·rcases dy i with rfl|i
  ·exact E
  ·exact gd t (K z i)
 ·rw[C,D];exact Own.low (lo:=H.next+2) (Own.keep h (bl _) λz i _=>(z5 (by omega)).trans (z5 (by omega))) (by omega)
 ·by_cases hl:z=l
  ·subst hl;rw[gl];exact Heap.aI ((z5 (Ne.symm y)).trans W)
  ·exact(z5 hl).trans ((z5 B).trans ((w z (by omega) Z).trans (A z (by omega) hl).symm))
 ·exact(X.as (AS.wr _ _ _ _)).as (AS.wr _ _ _ _)
 ·show H.next<=j.next
  omega
 ·show H.next+2<j.next
  omega
theorem AH{a b:List Nat}{f:Fi}(h:f∈kU a b):IsS f.s/\∃t x y z,f.s=pO (jR b t) (jV (jR b t)).1 x y z:=by
 unfold kU at h;split at h
 ·cases h
 ·obtain⟨t,_,h⟩:=List.mem_flatMap.1 h;unfold rH Oo AG wC ze at h;obtain⟨z,_,h⟩:=List.mem_flatMap.1 h;obtain⟨y,_,h⟩:=List.mem_flatMap.1 h;obtain⟨x,_,h⟩:=List.mem_flatMap.1 h;split at h
  ·rw[List.mem_singleton.1 h];exact⟨tc (yd b t) _ _ _ _,t,x,y,z,rfl⟩
  ·cases h
structure PPl (l q:Nat) (H0:Heap) (L:bM) (done:List Fi) (H:Heap):Prop where
 old:∀z,z<l->z≠q->H.get z=H0.get z
 loop:H.get l=some L
 nx:l<H.next
 val:∃v,H.get q=some (.cells [v] true 1)/\Own (l+1) H 8 v (done.map (·.s)).length (ssL (done.map (·.s)))
 few:done.length<=100000
def wPl(q:Nat)(H:Heap)(z:Nat):Prop:=z=q∨∃m c,H.get q=some (.cells [.slice (some ⟨z,0,none⟩) m c] true 1)
theorem PPl.fu{l q:Nat}{d:Heap}{L:bM}(n:q<l)(done:List Fi)(H a:Heap)(p:PPl l q d L done H)(e:H.next<=a.next)(h:∀x,x<H.next->a.get x=H.get x):PPl l q d L done a:=by
 obtain⟨f,g,i,⟨v,j,k⟩,m⟩:=p;exact⟨λz c b=>(h z (by omega)).trans (f z c b),(h l i).trans g,by omega,⟨v,(h q (by omega)).trans j,k.keep e λz _ c=>h z c⟩,m⟩
variable{h:Heap}
theorem EW{sz n:Nat}{p m c:Nat}{cs:List Value}(s:Own lo h sz (.slice (some ⟨p,0,none⟩) m c) n cs):lo<=p/\p<h.next:=by
 cases s with
 |full h1 h2=>exact⟨h1,h2⟩
theorem F8(j:T 84=some (.lD (pX 111 85))){k:Nat}(r:k=111∨k=85){l:List (List Nat)}(s:OwS lo h v l)(f:∀x∈l,IsS x)(u:l.length<1000000):
 Gs T 84 [v, .func (.func k) #[] #[]] h (vB v) (λ_ h'=>OwS lo h' v (eV l)):=by
 have a:=kE l;have i:Ht 111 85 (.func (.func k) #[] #[])=true:=by
  rcases r with rfl|rfl<;>rfl
 rcases s with⟨rfl,rfl⟩|⟨b,c,tl,h1,h2,h3,rfl,h4,h5⟩
 ·have e:eV []=[]:=List.length_eq_zero_iff.1 a;rw[e];refine⟨.ret (.tuple #[]),h,⟨1,λn y=> ?_⟩,⟨bl _,λz d=> .inl d,λ_ _ _=>rfl,id⟩, .tuple #[],rfl, .inl ⟨rfl,rfl⟩⟩;obtain⟨A,rfl⟩:∃k,n=k+1:=⟨n-1,by omega⟩;simp only[iJ,j,pX,i,cond_true]
 ·have m:(Ht 111 85 (.func (.func k) #[] #[])&&(Nat.beq 0 0&&Nat.blt l.length 1000000))=true:=by rw[i,gM u];rfl
  have o:=DS (t:=tl) f;have p:cw (l.length*8) (ssL l++tl)=tl:=by rw[aW,←fQ f,Ej]
  refine⟨.ret (.tuple #[]),h.wr h.next b (.cells (ssL (eV l)++tl) true 8),⟨1,λn y=> ?_⟩,?_, .tuple #[],rfl, .inr ⟨b,c,tl,h1,h2,?_,by rw[a],by omega,λq=>h5 λB=>q (by rw[B];exact List.length_eq_zero_iff.1 (kE []))⟩⟩
  ·obtain⟨A,rfl⟩:∃k,n=k+1:=⟨n-1,by omega⟩;simp only[iJ,j,pX,h3,m,cond_true,o,p]
  ·refine⟨bl _,λz d=> ?_,λz d g=> ?_,λw=>w.as (AS.wr h.next _ _ _)⟩
   ·rcases dy d with rfl|d
    ·exact .inr ⟨_,_,rfl⟩
    ·exact .inl d
   ·exact z5 (λe=>g (by rw[e];exact⟨_,_,rfl⟩))
  ·show(h.wr h.next b (.cells (ssL (eV l)++tl) true 8)).get b=_;rw[z6,h3];rfl
structure Jg (T:Nat->Option aq):Prop where
 fi:QU T
 f72:T 83=some f72
 f167:T 110=some f167
 f189:T 84=some (.lD (pX 111 85))
 f192:T 87=some f192
theorem IA(F:Jg T)(hr:Rdy h)(u:h.next≥lo){l:List (List Nat)}(s:OwS lo h v l)(a:∀x∈l,IsS x)(k:l.length<1000000):
 Gs T 110 [v, .func (.func 111) #[] #[]] h (vB v) (λv c=>OwS lo c v (ddS (eV l))):=by
 have n:=F.fi.ft.li.p;refine .of n F.f167 (λv G H A w t y=>OwS.flat A y) ?_;have g:=F8 F.f189 (.inl rfl) (h:={h with log:=[]}) (s.log []) a k;refine Y7 ?_;refine FW.gs g (λv c m q=>q.log m) ?_;rintro _ j o C;clear g;have b:∀x∈eV l,IsS x:=λx B=>a x (nV.1 B);have i:=wg n F.f192 (h:={j with log:=[]}) (.of (o.wf hr.wf)) (C.log []) b (by rw[kE];exact k);refine Y4 ?_;refine FW.gs i (λv c m q=>q.log m) ?_;rintro I r E D;clear i;have e:∀z∈j.log,vB v z:=λz d=>(o.log z d).elim (λq=>by rw[hr.log]at q;cases q) id;have f:∀z∈r.log,vB v z:=λz d=>(E.log z d).elim (λq=>e z q) id;refine Y3 ?_;exact iy f rfl D
def za(a b:List Nat):List (List Nat):=if b=s0 then []else ddS (eV ((kU a b).map (·.s)))
variable{s:List Nat}
theorem Gn{a b:List Nat}(h:s∈za a b):IsS s:=by
 unfold za at h;split at h
 ·cases h
 ·obtain⟨f,c,rfl⟩:=List.mem_map.1 (nV.1 (vt h));exact(AH c).1
theorem QK(lo:Int)(n:Nat):(zrN lo n).length=n:=by unfold zrN;simp
theorem sV{α β:Type}{f:α->List β}{k:Nat}:∀{l:List α},(∀x∈l,(f x).length<=k)->(l.flatMap f).length<=l.length*k
 |[],_=>by simp
 |x::l,h=>by
  have h1:=h x b6;have b:=sV λy a=>h y (bz x a);rw[List.flatMap_cons,ec,pm,sx];omega
theorem zH(a b:List Nat):(kU a b).length<=98304:=by
 have c:∀{lo hi:Int}, -7<=lo->hi<=7->(zr lo hi).length<=16:=λ{lo hi} w A=>by
  unfold zr;rw[QK];omega
 have l:=vp a;unfold kU;split
 ·simp
 ·refine gd (sV (k:=4096) λt _=> ?_) (by simp);have g:=vp (jR b t);obtain⟨⟨⟨B,C⟩,⟨D,E⟩,⟨F,G⟩⟩,⟨⟨H,I⟩,⟨J,h⟩,⟨i,j⟩⟩⟩:=l;obtain⟨⟨⟨m,n⟩,⟨o,p⟩,⟨q,r⟩⟩,⟨⟨s,u⟩,⟨v,d⟩,⟨e,f⟩⟩⟩:=g;unfold rH Oo;refine gd (sV (k:=256) λz _=> ?_) (by have:=c (lo:=(jV a).1.lo.z-(jV (jR b t)).1.lo.z) (hi:=(jV a).1.hi.z-(jV (jR b t)).1.hi.z) (by omega) (by omega);omega);unfold AG;refine gd (sV (k:=16) λy _=> ?_) (by have:=c (lo:=(jV a).1.lo.y-(jV (jR b t)).1.lo.y) (hi:=(jV a).1.hi.y-(jV (jR b t)).1.hi.y) (by omega) (by omega);omega);unfold wC;refine gd (sV (k:=1) λx _=> ?_) (by have:=c (lo:=(jV a).1.lo.x-(jV (jR b t)).1.lo.x) (hi:=(jV a).1.hi.x-(jV (jR b t)).1.hi.x) (by omega) (by omega);omega);unfold ze;split<;>simp
theorem DB(a b:List Nat):(za a b).length<=98304:=by
 unfold za;split
 ·simp
 ·refine gd (AD _) ?_;rw[kE,po];exact zH a b
def Pr(b:List Nat):Int:=if b=s0 then 1 else 0
theorem Me(F:Jg T)(hr:Rdy h)(hg:Tab h)(h2:0<h.next){a b:List Nat}(K:IsS a)(hb:IsS b):
 Al T 83 [sv a,sv b] h λv J=>∃u,v= .tuple #[u, .int .i64 (Pr b)]/\OwS h.next J u (za a b):=by
 have hp:=F.fi.ft.li.p;refine .of hp F.f72 hr ?_ ?_
 ·rintro v Q hv ⟨u,rfl,q⟩;have hu:cE u=true:=by
   have e:cE (.tuple #[u, .int .i64 (Pr b)])=jf [u, .int .i64 (Pr b)]:=rfl;rw[e]at hv;simp only[jf,cond_eq_ite,Bool.if_false_right,ed]at hv;have V:flat u=true:=of_decide_eq_true hv.1;unfold cE;split
   ·rename_i cs;rcases q with⟨Q,_⟩|⟨_,_,_,_,_,_,Q,_⟩<;>cases Q
   ·exact V
  exact⟨u,rfl,OwS.flat hu q⟩
 have bj:=bR K.len;have bo:=cS K.len;have cd:=bR hb.len;have cf:=cS hb.len;have x0:Ext h ((h.push (.cells (cellsOf (sv a)) true 1)).push (.cells (cellsOf (sv b)) true 1)):=((Ext.refl h).push _).push _;have gA:((h.push (.cells (cellsOf (sv a)) true 1)).push (.cells (cellsOf (sv b)) true 1)).get h.next=some (.cells (us a) true 1):=YG
 have gB:((h.push (.cells (cellsOf (sv a)) true 1)).push (.cells (cellsOf (sv b)) true 1)).get (h.next+1)=some (.cells (us b) true 1):=YG;have n0:((h.push (.cells (cellsOf (sv a)) true 1)).push (.cells (cellsOf (sv b)) true 1)).next=h.next+2:=rfl
 refine Y6 ?_;generalize((h.push (.cells (cellsOf (sv a)) true 1)).push (.cells (cellsOf (sv b)) true 1))=H at*;have W:=x0.wf hr.wf;have hL:=x0.log.trans hr.log;have bi:=zH a b;unfold za Pr;by_cases he:b=s0
 ·rw[if_pos he,if_pos he];refine Y4 ?_;refine aG (oR (b:=s0) (by exact rfl) (by exact rfl) hb.len rfl) ?_;rw[decide_eq_true he];refine Y8 ?_;exact dG hL rfl ⟨_,rfl, .inl ⟨rfl,rfl⟩⟩
 rw[if_neg he,if_neg he];refine Y4 ?_;refine aG (oR (b:=s0) (by exact rfl) (by exact rfl) hb.len rfl) ?_;rw[decide_eq_false he];have x1:Ext H (H.push (.cells [.slice none 0 0] true 1)):=(Ext.refl H).push _;have q6:(H.push (.cells [.slice none 0 0] true 1)).get H.next=some (.cells [.slice none 0 0] true 1):=z3 _ _
 have n1:(H.push (.cells [.slice none 0 0] true 1)).next=H.next+1:=rfl
 refine Y7 ?_;generalize(H.push (.cells [.slice none 0 0] true 1))=H1 at*;have j:=x0.trans x1;have W1:=j.wf hr.wf;have be:=j.log.trans hr.log;have M:=(x1.old _ (by omega)).trans gA;have O:=(x1.old _ (by omega)).trans gB;have C:=Oq F.fi (h:={H1 with log:=[]}) (.of W1) K hb;clear gA gB;refine Y5 ?_;refine FW.al C (λv J m q=>q) ?_;rintro _ i x2 ⟨y,A,rfl,ga,gb,aw,aE,na,nb⟩;clear C;have na:H1.next<=y:=na
 have nb:H1.next<=A:=nb
 have k:=j.trans x2;have W2:=k.wf hr.wf;have U:=k.log.trans hr.log;have n2:=x2.next
 have L:=(x2.old _ (by omega)).trans q6;have X:Tab i:=hg.ext k h2;clear M O q6;refine Y2 ?_;refine IX (lo:=H.next) (P:=PPl i.next H.next i (.loop [(6, .pointer (some ⟨H.next,0,none⟩)),(14,fnF y A)] [15,16] zq zv 0 .normal) (kU a b)) rfl (by rfl) (by rw[F.fi.ft.f209];rfl) (by omega) (by omega) U W2 ?_ (λH p=>⟨_,_,_,_,p.loop⟩) ?_
 ·have Y:GV T H.next (i.next+1) i.next H.next fiV (kU a b) (PPl i.next H.next i (.loop [(6, .pointer (some ⟨H.next,0,none⟩)),(14,fnF y A)] [15,16] zq zv 0 .normal)) (wPl H.next):=by
   refine⟨by omega,λdone f Hh hx o ar hN n=> ?_,PPl.fu (by omega),λdone B ba p Z hs z g=> ?_,λdone B z p g=> ?_⟩
   ·obtain⟨I,w,p3,⟨v,r,t⟩,L⟩:=n;refine FW.mono' (DC hp ar (lo:=H.next) (lo2:=i.next+1) (ss:=done.map (·.s)) (AH hx).1 (by rw[po];omega) (bl _) w r t (by omega) (by omega) (by omega) hN) ?_;rintro r' B ⟨r1,r2,r3,p,r4,r5,r6,r7,r8,r9,ci⟩;have G:∀z,z<i.next+1->∀m c,v≠ .slice (some ⟨z,0,none⟩) m c:=λz g m c e=>by
     rw[e]at t;have:=(EW t).1;omega
    refine⟨r1,r2,r3,⟨_,_,_,r4,rfl⟩,⟨λz g E=>(r7 z (by omega) E (G z (by omega))).trans (I z g E),(r7 _ (by omega) (by omega) (G _ (by omega))).trans w,by omega,⟨_,r4,by rw[tk];exact r6⟩,by rw[ec];show done.length+1<=_;omega⟩,λz g Z=>r7 z g (λe=>Z (.inl e)) λm c e=>Z (.inr ⟨m,c,by rw[←e];exact r⟩),λz g=> ?_⟩;rcases g with rfl|⟨m,c,g⟩
    ·exact .inl (.inl rfl)
    ·rw[r4]at g;cases g;exact .inr r5
   ·obtain⟨I,w,p3,⟨v,r,t⟩,L⟩:=p;rcases g with rfl|⟨m,c,g⟩
    ·exact .inl rfl
    ·exact .inr ⟨m,c,by rw[←hs _ (by omega)];exact g⟩
   ·obtain⟨I,w,p3,⟨v,r,t⟩,L⟩:=p;rcases g with rfl|⟨m,c,g⟩
    ·omega
    ·rw[r]at g;cases g;exact(EW t).2
  exact Kb F.fi.ft (.of (W2.push (.loop [(6, .pointer (some ⟨H.next,0,none⟩)),(14,fnF y A)] [15,16] zq zv 0 .normal))) (qa:=y) (qb:=A) (l:=i.next) (N:=i.next+1) (lo:=H.next) K hb (bl _) (by show H.next<=i.next+1;omega) (by omega) Y (λd B n=>(n.old _ aw (by omega)).trans ga) (λd B n=>(n.old _ aE (by omega)).trans gb) (λd B n=>(n.old 0 (by omega) (by omega)).trans X)
   ⟨λz g _=>z4 (by omega),z3 _ _,go _,⟨_,(z4 (by omega)).trans L, .nil⟩,md _⟩
 intro h4 S k1 k2 k3 k4 k5 k6 n;obtain⟨I,w,p3,⟨v,r,t⟩,p7⟩:=n;have D:=(k5 H.next (by omega)).trans r;have ow:=t.keep (h':=S) (by omega) λz g _=>k5 z (by omega);have ae:∀x∈(kU a b).map (·.s),IsS x:=λx hx=>by
  obtain⟨f,V,rfl⟩:=List.mem_map.1 hx;exact(AH V).1
 have o:((kU a b).map (·.s)).length<1000000:=by rw[po];omega
 generalize(kU a b).map (·.s)=l at*;have os:=Pk.Own.owS ow (by omega);have C:=IA F (h:={S with log:=[]}) (.of k2) (lo:=i.next+1) (by show i.next+1<=S.next;omega) (os.log []) ae o;clear r I w;refine Y5 ?_;refine FW.gs0 C (λv J m q=>q.log m) (λz g=>by have:=(os.vb g).1;omega) ?_;rintro v6 H6 n6 l6 o6 w6 s6;clear C;refine Y4 ?_;exact dG (l6.trans k1) rfl ⟨_,rfl,s6.low (by omega)⟩
structure BW (T:Nat->Option aq):Prop where
 pl:Jg T
 f35:T 46=some f35
 f92:T 55=some f92
 f121:T 76=some f121
 f124:T 48=some f124
 f193:T 88=some f193
 f194:T 89=some f194
 f195:T 90=some f195
 f196:T 91=some f196
 f197:T 92=some f197
 f257:T 115=some f257
def Gh(r:List (List Nat))(x:List Nat):Bool:=r.any λy=> !decide (y=x)&&sIn y x
def wW(w:List Nat×List Nat)(o:List Nat):List (List Nat):=ddS (eV ((za w.2 o).map λp=>jv p w.1))
def dR(w:List Nat×List Nat)(o:List Nat):List (List Nat):=(wW w o).filter λx=> !Gh (wW w o) x
variable{w:List Nat×List Nat}{o:List Nat}
theorem Dh(c:IsW w)(h:s∈wW w o):IsS s:=by
 obtain⟨p,b,rfl⟩:=List.mem_map.1 (nV.1 (vt h));exact(Gn b).less c.a
theorem zP(w:List Nat×List Nat)(o:List Nat):(wW w o).length<=98304:=by
 refine gd (AD _) ?_;rw[kE,po];exact DB _ _
variable{x:List Nat}
theorem L7(F:BW T)(hr:Rdy h){q:Nat}{y:List Nat}(a:IsS x)(c:IsS y)(g:h.get q=some (.cells (us x) true 1)):Pu T 92 [sv y, .pointer (some ⟨q,0,none⟩)] h (.bool (!decide (y=x)&&sIn y x)):=by
 have f:=F.pl.fi.ft.li.p;refine .of f F.f197 hr rfl ?_;have i:=hr.wf.bP g;have j:=bR a.len;have k:=cS a.len;have l:=bR c.len;have m:=cS c.len;have d:Ext h (h.push (.cells (cellsOf (sv y)) true 1)):=(Ext.refl h).push _;have n:(h.push (.cells (cellsOf (sv y)) true 1)).get h.next=some (.cells (us y) true 1):=YG
 have r:(h.push (.cells (cellsOf (sv y)) true 1)).next=h.next+1:=rfl
 refine Y4 ?_;generalize(h.push (.cells (cellsOf (sv y)) true 1))=H at*;have W:=d.wf hr.wf;have e:=d.log.trans hr.log;have o:=(d.old _ i).trans g;have C:=Ex f F.f35 F.f121 (h:={H with log:=[]}) (.of W) c a;by_cases he:y=x
 ·rw[decide_eq_true he];refine Y3 ?_;refine aG (oR (b:=x) (by exact rfl) (by exact rfl) c.len a.len) ?_;rw[decide_eq_true he];refine Y8 ?_;exact au e rfl rfl
 ·rw[decide_eq_false he];refine Y3 ?_;refine aG (oR (b:=x) (by exact rfl) (by exact rfl) c.len a.len) ?_;rw[decide_eq_false he];refine Y7 ?_;refine FW.pu C ?_;clear C;refine Y4 ?_;exact au e rfl rfl
theorem OU(F:BW T)(hr:Rdy h){q:Nat}{r:List (List Nat)}(s:SsQ h v r)(i:r.length<1000000)(j:IsS x)(g:h.get q=some (.cells [v] true 1)):Pu T 90 [sv x, .pointer (some ⟨q,0,none⟩)] h (.bool (Gh r x)):=by
 have d:=F.pl.fi.ft.li.p;refine .of d F.f195 hr rfl ?_;have l:=hr.wf.bP g;have b:Ext h (h.push (.cells (cellsOf (sv x)) true 1)):=(Ext.refl h).push _;have e:(h.push (.cells (cellsOf (sv x)) true 1)).get h.next=some (.cells (us x) true 1):=YG
 have n:(h.push (.cells (cellsOf (sv x)) true 1)).next=h.next+1:=rfl
 refine Y4 ?_;generalize(h.push (.cells (cellsOf (sv x)) true 1))=H at*;have W:=b.wf hr.wf;have f:=b.log.trans hr.log;have m:=(b.old _ l).trans g;obtain⟨a,c,rfl⟩:=s.sl.form;have C:=uJ d F.f196 F.f257 (h:={H with log:=[]}) (.of W) ((s.ext b).log []) i (g:=92) (cap:=[.pointer (some ⟨h.next,0,none⟩)]) (λy=> !decide (y=x)&&sIn y x) λy k=>L7 F (h:={H with log:=[]}) (.of W) j (s.ok y k) e;unfold Gh;refine Y4 ?_;refine FW.pu C ?_;clear C;refine Y3 ?_;exact au f rfl rfl
theorem y8{l:List (List Nat)}{i:Nat}(f:List Nat->List Nat)(hi:l[i]? =some x):((l.take i).map f++l.drop i).set i (f x)=(l.take (i+1)).map f++l.drop (i+1):=by
 obtain⟨a,c⟩:=List.getElem?_eq_some_iff.1 hi;have b:((l.take i).map f).length=i:=by rw[po,m6];omega
 rw[pB a,List.set_append_right _ _ (Nat.le_of_eq b),b,ul,List.set_cons_zero,fU hi,tk,rr];rfl
theorem De{l:List (List Nat)}{i:Nat}(f:List Nat->List Nat)(hi:l[i]? =some x):((l.take i).map f++l.drop i)[i]? =some x:=by
 have a:=(List.getElem?_eq_some_iff.1 hi).1;rw[gK (by simp;omega),me,po,m6,tp (by omega),ul,ww,hi]
theorem OwS.wr{base p:Nat}{l:List (List Nat)}{ob:bM}(q:OwS lo h v l)(a:∀z,vB v z->z≠p):OwS lo (h.wr base p ob) v l:=by
 rcases q with q|⟨b,c,t,h1,h2,h3,rfl,h4⟩
 ·exact .inl q
 ·exact .inr ⟨b,c,t,h1,h2,(z5 (a b ⟨_,_,rfl⟩)).trans h3,rfl,h4⟩
variable{vs:List Value}
theorem OwS.ne{p:Nat}{l:List (List Nat)}{own:Bool}(q:OwS lo h v l)(g:h.get p=some (.cells vs own 1)):∀z,vB v z->z≠p:=by
 rintro z ⟨m,c,a⟩ rfl;rcases q with⟨rfl,_⟩|⟨b,c',t,h1,h2,h3,rfl,h4⟩
 ·cases a
 ·cases a;rw[g]at h3;cases h3
theorem OW(F:BW T)(hr:Rdy h)(hg:Tab h)(h2:0<h.next)(n:IsW w)(ho:IsS o):Al T 55 [wV w,sv o] h λv h'=>OwS h.next h' v (dR w o):=by
 have D:=F.pl.fi.ft.li.p;refine .of D F.f92 hr (λv h1 hv q=>OwS.flat hv q) ?_;have cY:cellsOf (wV w)=wL w:=by show(wL w).toArray.toList=_;simp
 have g0:((h.push (.cells (cellsOf (wV w)) true 1)).push (.cells (cellsOf (sv o)) true 1)).get h.next=some (.cells (wL w) true 1):=by rw[cY];exact(z4 (go _)).trans (z3 h _)
 have g1:((h.push (.cells (cellsOf (wV w)) true 1)).push (.cells (cellsOf (sv o)) true 1)).get (h.next+1)=some (.cells (us o) true 1):=z3 _ _;have n0:((h.push (.cells (cellsOf (wV w)) true 1)).push (.cells (cellsOf (sv o)) true 1)).next=h.next+2:=rfl
 have x0:Ext h ((h.push (.cells (cellsOf (wV w)) true 1)).push (.cells (cellsOf (sv o)) true 1)):=((Ext.refl h).push _).push _;refine Y5 ?_;generalize((h.push (.cells (cellsOf (wV w)) true 1)).push (.cells (cellsOf (sv o)) true 1))=H at*;have W:=x0.wf hr.wf;have hL:=x0.log.trans hr.log;have wk:=oN n;have e9:=kM n;have wa:=Qt n;have wb:=Nr n;have dE:=bR n.a.len;have dT:=bR n.b.len;have k8:=bR ho.len;have k9:=cS ho.len;have C1:=Me F.pl (h:={H with log:=[]}) (.of W) (show Tab H from hg.ext x0 h2) (by show 0<H.next;omega) n.b ho;have j:∀x∈za w.2 o,IsS x:=λx A=>Gn A;have cP:=DB w.2 o;have hA:wW w o=ddS (eV ((za w.2 o).map λp=>jv p w.1)):=rfl;have dj:=zP w o;have s:∀x∈wW w o,IsS x:=λx A=>Dh n A;unfold dR;generalize wW w o=r at*;generalize za w.2 o=l at*;refine Y5 ?_;refine FW.al C1 (λv h' m q=>q) ?_;rintro _ d x1 ⟨u,rfl,Q⟩;have Q:OwS H.next d u l:=Q
 clear C1;have cf:=x0.trans x1;have n1:=x1.next
 have Y:=(x1.old _ (by omega)).trans g0;have x2:=fK (h:=d) (base:=h.next) (by omega) (.cells [.slice none 0 0] true 1) (.cells [u] true 1);have g5:=gY (h:=d) (base:=h.next) [.slice none 0 0] [u];have n2:((d.push (.cells [.slice none 0 0] true 1)).wr h.next d.next (.cells [u] true 1)).next=d.next+1:=rfl
 obtain⟨a,c,rfl⟩:=Q.form;clear g0 g1;refine Y7 ?_;refine WE.vh ?_;intro S aw;have e2:S=((d.push (.cells [.slice none 0 0] true 1)).wr h.next d.next (.cells [.slice a l.length c] true 1)):=aw;rw[←e2]at x2 g5 n2;clear aw e2;have X:=cf.trans x2;have W2:=X.wf hr.wf;have ba:=X.log.trans hr.log;have Z:=(x2.old _ (by omega)).trans Y;have q2:=Q.ext x2;refine cI (E0:=[(2, .pointer (some ⟨h.next,0,none⟩)),(5, .pointer (some ⟨d.next,0,none⟩)),(16, .int .i64 (l.length:Nat)),(17, .int .i64 (l.length:Nat)),(18, .bool false)]) (P:=λh'=>WF h'∧h'.log=[]/\S.next<=h'.next/\(∀z,z<H.next->h'.get z=S.get z)/\h'.get d.next=some (.cells [.slice a l.length c] true 1)/\OwS H.next h' (.slice a l.length c) (l.map λp=>jv p w.1)) ?_ ?_
 ·rcases q2 with⟨hv,rfl⟩|⟨b,c',tl,hb1,hb2,hb3,hv,hcl,hcu⟩
  ·cases hv;refine Y6 ?_;refine cT (λmm e V h'=>0=mm/\e=[(2, .pointer (some ⟨h.next,0,none⟩)),(5, .pointer (some ⟨d.next,0,none⟩)),(16, .int .i64 0),(17, .int .i64 0)]/\V=[]/\S=h') ⟨rfl,rfl,rfl,rfl⟩ ?_;rintro mm e V _ ⟨rfl,rfl,rfl,rfl⟩;refine Y9 ?_;exact⟨rfl,rfl,rfl,W2,ba,bl _,λ_ _=>rfl,g5, .inl ⟨rfl,rfl⟩⟩
  ·cases hv;have dp:b<d.next:=(Q.vb ⟨_,_,rfl⟩).2
   refine Y6 ?_
   refine cT (λmm e V h'=>∃i:Nat,i<=l.length/\l.length-i=mm/\e=[(2, .pointer (some ⟨h.next,0,none⟩)),(5, .pointer (some ⟨d.next,0,none⟩)),(16, .int .i64 (l.length:Nat)),(17, .int .i64 (i:Nat))]/\V=[]/\WF h'∧h'.log=[]/\S.next=h'.next/\(∀z,z≠b->h'.get z=S.get z)/\h'.get b=some (.cells (ssL ((l.take i).map (λp=>jv p w.1)++l.drop i)++tl) true 8))
    ⟨0,md _,rfl,rfl,rfl,W2,ba,rfl,λ_ _=>rfl,hb3⟩ ?_
   rintro mm e V H3 ⟨i,hi,rfl,rfl,rfl,w3,l3,n3,U,gb⟩;have B:=(U d.next (by omega)).trans g5;have ci:=(U h.next (by omega)).trans Z;by_cases hlt:i<l.length
   ·obtain⟨x,A⟩:∃x,l[i]? =some x:=⟨l[i],bx hlt⟩;have N:=j x (eA A);have f:∀y∈(l.take i).map (λp=>jv p w.1)++l.drop i,IsS y:=λy O=>by
     rcases List.mem_append.1 O with O|O
     ·obtain⟨p,D,rfl⟩:=List.mem_map.1 O;exact(j p (wt D)).less n.a
     ·exact j y (List.mem_of_mem_drop O)
    have dv:((l.take i).map (λp=>jv p w.1)++l.drop i).length=l.length:=by
     rw[ec,po,m6,List.length_drop];omega
    have rx:=qS (t:=tl) f (De _ A);have bo:=y8 (λp=>jv p w.1) A;have bi:=N.less n.a;have C:=OF D F.f124 (h:={H3 with log:=[]}) (.of w3) N n.a;have kc:=BK (t:=tl) f bi (i:=i) (by omega);have kw:cW (ssL ((l.take i).map (λp=>jv p w.1)++l.drop i)++tl) (0+i*8) (cellsOf (sv (jv x w.1)))=ssL ((l.take (i+1)).map (λp=>jv p w.1)++l.drop (i+1))++tl:=by
     have e:cellsOf (sv (jv x w.1))=us (jv x w.1):=by show(us (jv x w.1)).toArray.toList=_;simp
     rw[e,BJ f bi (by omega),bo]
    have kx:=bR N.len;have d9:an .lss (.int .i64 (i:Nat)) (.int .i64 (l.length:Nat))=some (.bool true):=dY (by omega);generalize jv x w.1=lx at*;generalize(l.take i).map (λp=>jv p w.1)++l.drop i=m at*;obtain rfl:=hcu (λq=>by rw[q]at hlt;simp at hlt);refine Y23 ?_;refine FW.puD C (by(repeat apply aC rfl);apply ah rfl (af rfl (dD (by exact rfl)) (by exact bY _ _)) rfl;apply ah rfl (af rfl (bJ (by exact rfl) (by assumption) (by exact rfl)) (by exact eH _ _ _)) rfl;exact aY) ?_;clear C;refine qI ?_;refine iC rfl rfl rfl (by exact rfl) (by exact rfl) (by exact rfl) gb kc kw (by omega) (by(repeat apply aC rfl);exact aY) ?_;refine Y8 ?_;exact⟨l.length-(i+1),by omega,i+1,by omega,rfl,rfl,rfl,w3.as (AS.wr h.next _ _ _),(Heap.aD (by omega)).trans l3,n3,λz k=>(z5 k).trans (U z k),by rw[z6,gb];rfl⟩
   ·obtain rfl:i=l.length:=by omega
    have d9:an .lss (.int .i64 (l.length:Nat)) (.int .i64 (l.length:Nat))=some (.bool false):=eM (by omega);rw[q9,zp,oC]at gb;refine Y9 ?_;refine⟨rfl,rfl,rfl,w3,l3,by omega,λz k=>U z (by omega),B, .inr ⟨b,c,tl,hb1,by omega,gb,by rw[po],by rw[po];exact hcl,λq=>hcu λq2=>q (by rw[q2];rfl)⟩⟩
 have cd:∀z,vB (.slice a l.length c) z->H.next<=z/\z<d.next:=λz k=>Q.vb k
 rintro H3 ⟨w3,l3,n3,U,B,q3⟩;clear q2 Q g5 Y;have ci:=(U _ (by omega)).trans Z;have f:∀y∈l.map (λp=>jv p w.1),IsS y:=λy O=>by
  obtain⟨p,D,rfl⟩:=List.mem_map.1 O;exact(j p D).less n.a
 have du:(l.map λp=>jv p w.1).length=l.length:=po _;generalize hll:l.map (λp=>jv p w.1)=lm at*;have I:lm.length<1000000:=by omega
 have C2:=F8 F.pl.f189 (.inr rfl) (h:={H3 with log:=[]}) (q3.log []) f I;refine Y3 ?_;refine FW.gs0 C2 (λv h' m q=>q.log m) (λz k=>by have:=(q3.vb k).1;omega) ?_;rintro v4 H4 n4 l4 o4 w4 q4;clear C2;have W4:=w4 w3;have ae:=(o4 d.next (by omega) (λq=>by have:=(cd _ q).2;omega)).trans B;have bj:∀x∈eV lm,IsS x:=λx A=>f x (nV.1 A);have C3:=wg D F.pl.f192 (h:={H4 with log:=[]}) (.of W4) (q4.log []) bj (by rw[kE];exact I);rw[←hA]at C3;refine Y4 ?_;refine FW.gs0 C3 (λv h' m q=>q.log m) (λz k=>by have:=(q4.vb k).1;omega) ?_;rintro v5 K n5 l5 o5 w5 q5;clear C3;have W5:=w5 W4;have cj:=l5.trans (l4.trans l3);have L:=(o5 d.next (by omega) (λq=>by have:=(cd _ q).2;omega)).trans ae;have da:=q5.ne L;obtain⟨E,G,rfl⟩:=q5.form;have dC:d.next<K.next:=by omega
 have q6:=q5.wr (base:=h.next) (ob:= .cells [.slice E r.length G] true 1) da;have ar:(K.wr h.next d.next (.cells [.slice E r.length G] true 1)).get d.next=some (.cells [.slice E r.length G] true 1):=by rw[z6,L];rfl
 have W6:WF (K.wr h.next d.next (.cells [.slice E r.length G] true 1)):=W5.as (AS.wr h.next _ _ _);have be:(K.wr h.next d.next (.cells [.slice E r.length G] true 1)).log=[]:=(Heap.aD (by omega)).trans cj;have n6:(K.wr h.next d.next (.cells [.slice E r.length G] true 1)).next=K.next:=rfl
 clear q5 q4 q3 ae B;refine Y2 ?_;clear L;refine WE.vh ?_;intro H6 aE;have e6:H6=K.wr h.next d.next (.cells [.slice E r.length G] true 1):=aE
 rw[←e6]at q6 ar W6 be n6;clear aE e6;have M:r.length<1000000:=by omega
 have C4:=JS D F.f194 (h:={H6 with log:=[]}) (.of W6) ((q6.ss s).log []) M;refine Y3 ?_;refine FW.al C4 (λv h' m q=>q.log m) ?_;rintro v7 H7 x7 q7;have q7:OwS H6.next H7 v7 r:=q7
 clear C4;have W7:=x7.wf W6;have cJ:=x7.log.trans be;have n7:=x7.next
 have C5:=Hj D F.f193 F.f257 (h:={H7 with log:=[]}) (.of W7) (lo:=H6.next) (q7.log []) s M (g:=90) (cap:=[.pointer (some ⟨d.next,0,none⟩)]) (Gh r) λh' w cX J x A=>
  OU F (h:={h' with log:=[]}) (.of w) (q:=d.next) (v:= .slice E r.length G) ((OwS.ss (q6.keep (h':=h') (by have:H7.next<=h'.next:=cX;omega) λz _ k=>(J z k).trans (x7.old z k)) s).log []) M A ((J _ (by omega)).trans ((x7.old _ (by omega)).trans ar))
 refine Y2 ?_;refine FW.gs0 C5 (λv h' m q=>q.log m) (λz k=>by have:=(q7.vb k).1;omega) ?_;rintro v8 H8 n8 l8 o8 w8 q8;clear C5;refine Y3 ?_;exact dG (l8.trans cJ) rfl (q8.low (by omega))
def th(w:List Nat×List Nat):Bool:=decide (64<((j6 w.2:Nat):Int)-((j6 w.1:Nat):Int))
theorem JU(s:List Nat):j6 s<=512:=mj s 512
structure Jf (T:Nat->Option aq):Prop where
 nd:BW T
 f22:T 19=some f22
 f89:T 51=some f89
 f90:T 52=some f90
 f91:T 54=some f91
theorem TQ(F:Jf T)(hr:Rdy h)(c:IsW w):Pu T 51 [wV w] h (.bool (sIn w.1 w.2)):=by
 have e:=F.nd.pl.fi.ft.li.p;refine .of e F.f89 hr rfl ?_;have d:cellsOf (wV w)=wL w:=by show(wL w).toArray.toList=_;simp
 have j:(h.push (.cells (cellsOf (wV w)) true 1)).get h.next=some (.cells (wL w) true 1):=by rw[d];exact z3 h _
 have W:WF (h.push (.cells (cellsOf (wV w)) true 1)):=hr.wf.push _;have f:(h.push (.cells (cellsOf (wV w)) true 1)).log=[]:=hr.log;refine Y4 ?_;generalize(h.push (.cells (cellsOf (wV w)) true 1))=H at*;have C:=Ex e F.nd.f35 F.nd.f121 (h:={H with log:=[]}) (.of W) c.a c.b;have k:=Qt c;have l:=Nr c;have g:=bR c.a.len;have i:=bR c.b.len;refine Y6 ?_;refine FW.pu C ?_;refine Y3 ?_;exact au f rfl rfl
theorem Sl(F:Jf T)(hr:Rdy h)(c:IsW w):Pu T 54 [wV w] h (.bool (th w)):=by
 have j:=F.nd.pl.fi.ft.li.p;refine .of j F.f91 hr rfl ?_;have e:cellsOf (wV w)=wL w:=by show(wL w).toArray.toList=_;simp
 have o:(h.push (.cells (cellsOf (wV w)) true 1)).get h.next=some (.cells (wL w) true 1):=by rw[e];exact z3 h _
 have W:WF (h.push (.cells (cellsOf (wV w)) true 1)):=hr.wf.push _;have i:(h.push (.cells (cellsOf (wV w)) true 1)).log=[]:=hr.log;refine Y4 ?_;generalize(h.push (.cells (cellsOf (wV w)) true 1))=H at*;have f:=sS F.nd.pl.fi.ft.co (h:={H with log:=[]}) (.of W) c.b;have g:=sS F.nd.pl.fi.ft.co (h:={H with log:=[]}) (.of W) c.a;have t:=Qt c;have u:=Nr c;have k:=bR c.a.len;have l:=bR c.b.len;have m:=JU w.1;have n:=JU w.2;have r:an .sub (.int .i64 ((j6 w.2:Nat):Int)) (.int .i64 ((j6 w.1:Nat):Int))=some (.int .i64 (((j6 w.2:Nat):Int)-((j6 w.1:Nat):Int))):=mQ (bO (by omega) (by omega));have s:an .gtr (.int .i64 (((j6 w.2:Nat):Int)-((j6 w.1:Nat):Int))) (.int .i64 64)=some (.bool (th w)):=by
  unfold th;by_cases q:64<((j6 w.2:Nat):Int)-((j6 w.1:Nat):Int)
  ·rw[decide_eq_true q];exact fM q
  ·rw[decide_eq_false q];exact gZ (by omega)
 generalize((j6 w.2:Nat):Int)-((j6 w.1:Nat):Int)=d at*;refine Y7 ?_;refine FW.puD f (by apply ah rfl (af rfl (di (by exact rfl) (by assumption) (by assumption) (by assumption)) (by exact yh _)) rfl;apply ah rfl (af rfl (cN (by exact rfl)) (by exact aV _)) rfl;(repeat apply aC rfl);exact aY) ?_;clear f;skip;refine qC ?_;refine FW.puD g (by(repeat apply aC rfl);exact aY) ?_;clear g;refine Y7 ?_;exact au i rfl rfl
structure Pb where
 cells:List Nat
 cost:Int
def pbL(p:Pb):List Value:=us p.cells++[.int .i64 p.cost]
def pbV(p:Pb):Value:= .agg (pbL p).toArray
def Be(l:List Pb):List Value:=l.flatMap pbL
variable{p:Pb}
theorem kr(h:IsS p.cells):(pbL p).length=9:=by simp[pbL,aK,h.len]
theorem Dw(h:IsS p.cells):bK (pbL p) (0+8)=some (.int .i64 p.cost):=by
 rw[cH];show(us p.cells++[Value.int .i64 p.cost])[8]? =_;rw[gK (by rw[aK,h.len];omega),aK,h.len];rfl
theorem qH(h:IsS p.cells):cG 8 (cw (0+0) (pbL p))=us p.cells:=by
 rw[bQ,aW];show(us p.cells++[Value.int .i64 p.cost]).take 8=_;rw[j3 (by rw[aK,h.len];omega),gk (by rw[aK,h.len];omega)]
theorem xu(h:IsS p.cells):Nat.beq (cF (pbL p)) 9=true:=by rw[bX,kr h];rfl
theorem DA(p:Pb):eC (pbL p)=true:=pV (dQ _) rfl
theorem Md:∀{l:List Pb} {i:Nat} {p:Pb},(∀p∈l,IsS p.cells)->l[i]? =some p->((Be l).drop (i*9)).take 9=pbL p
 |[],i,p,_,h=>by simp at h
 |q::l,0,p,hl,h=>by
  simp at h;subst h;have e:Be (q::l)=pbL q++Be l:=rfl;have:=kr (hl q b6);rw[e,vx,py,j3 (by omega),gk (by omega)]
 |q::l,i+1,p,hl,h=>by
  have e:Be (q::l)=pbL q++Be l:=rfl;have b:=kr (hl q b6);have a:(pbL q++Be l).drop 9=Be l:=by rw[←b];exact Ej
  rw[e,show(i+1)*9=9+i*9 by omega,←List.drop_drop,a];exact Md (λs c=>hl s (bz _ c)) (by simpa using h)
structure Rw (vs:List Value) (o:Nat) (p:Pb):Prop where
 all:cG 9 (cw o vs)=pbL p
 cells:cG 8 (cw (o+0) vs)=us p.cells
 cost:bK vs (o+8)=some (.int .i64 p.cost)
theorem Rw.mk'{o:Nat}(a:IsS p.cells)(h:(vs.drop o).take 9=pbL p):Rw vs o p:=by
 refine⟨by rw[bQ,aW];exact h,?_,?_⟩
 ·have:=qH a;rw[←this,bQ,aW,bQ,aW,←h,EQ,sf,Fd];rfl
 ·have:=Dw a;rw[←this,cH,cH,←h,gS (by omega),me,hX]
structure PbS (h:Heap) (v:Value) (l:List Pb):Prop where
 sl:aJ h 9 v l.length (Be l)
 ok:∀p∈l,IsS p.cells
theorem PbS.elem{l:List Pb}(s:PbS h v l){i:Nat}(hi:l[i]? =some p):
 ∃b o c d a t,v= .slice (some ⟨b,o,none⟩) l.length c/\h.get b=some (.cells d a t)/\b<h.next/\Rw d (o+i*9) p:=by
 have g:=(List.getElem?_eq_some_iff.1 hi).1;rcases aJ.inv s.sl with⟨_,_,h0,_⟩|⟨b,o,cap,hv,s1,hc⟩
 ·omega
 ·obtain⟨d,a,t,e,f⟩:=s1.obj;refine⟨b,o,cap,d,a,t,hv,e,s1.lt, .mk' (s.ok p (eA hi)) ?_⟩;rw[←Md s.ok hi,←f];simp only[bQ,aW,EQ,Fd,sf];congr 1;omega
theorem PbS.form{h:Heap}{v:Value}{l:List Pb}(s:PbS h v l):∃a c,v= .slice a l.length c:=s.sl.form
theorem PbS.ext{h h':Heap}{v:Value}{l:List Pb}(s:PbS h v l)(x:Ext h h'):PbS h' v l:=⟨s.sl.ext x,s.ok⟩
theorem PbS.log{h:Heap}{v:Value}{l:List Pb}(s:PbS h v l)(m:List Nat):PbS {h with log:=m} v l:=⟨s.sl.log m,s.ok⟩
def oT(p:Pb):Bool:=decide (p.cells=s0)|| !inR p.cost 1 1000
def prE(l:List Pb):Int:=if 8<l.length then 2 else if l.any oT then 1 else 0
def wF(P:Pb->Bool):List Pb->Nat->Int
 |[],_=> -1
 |r::l,i=>if P r then(i:Int)else wF P l (i+1)
theorem Hy(P:Pb->Bool){l:List Pb}{i:Nat}{r:Pb}(hi:l[i]? =some r):wF P (l.drop i) i=if P r then(i:Int)else wF P (l.drop (i+1)) (i+1):=by
 obtain⟨a,rfl⟩:=List.getElem?_eq_some_iff.1 hi;rw[pB a,wF]
theorem Ks(P:Pb->Bool)(l:List Pb):wF P (l.drop l.length) l.length= -1:=by
 rw[zp];rfl
theorem CO(P:Pb->Bool):∀(l:List Pb) (i:Nat),decide (0<=wF P l i)=l.any P
 |[],_=>rfl
 |r::l,i=>by
  rw[wF,List.any_cons];by_cases h:P r=true
  ·rw[if_pos h,h,Bool.true_or];exact decide_eq_true (by omega)
  ·rw[if_neg h,CO P l (i+1)];have:P r=false:=by simpa using h
   rw[this,xc]
structure FF (T:Nat->Option aq):Prop where
 p:aF T
 f62:T 93=some f62
 f90:T 52=some f90
 f106:T 30=some f106
 f155:T 116=some f155
 f156:T 117=some f156
 f231:T 135=some f231
theorem RF(F:FF T)(hr:Rdy h)(a:IsS p.cells):Pu T 117 [pbV p] h (.bool (oT p)):=by
 refine .of F.p F.f156 hr rfl ?_;have b:cellsOf (pbV p)=pbL p:=by show(pbL p).toArray.toList=_;simp
 have e:Ext h (h.push (.cells (cellsOf (pbV p)) true 1)):=(Ext.refl h).push _;have g:(h.push (.cells (cellsOf (pbV p)) true 1)).get h.next=some (.cells (pbL p) true 1):=by rw[b];exact z3 h _
 refine Y4 ?_;generalize(h.push (.cells (cellsOf (pbV p)) true 1))=H at*;have W:=e.wf hr.wf;have d:=e.log.trans hr.log;have i:=qH a;have j:=bR a.len;have k:=Dw a;have c:=F1 F.p F.f90 (h:={H with log:=[]}) (.of W) a;have f:=Ku F.p F.f106 (h:={H with log:=[]}) (.of W) p.cost 1 1000;unfold oT;generalize decide (p.cells=s0)=b1 at*;generalize inR p.cost 1 1000=b2 at*;cases b1 with
 |true=>
  refine Y4 ?_;refine FW.pu c ?_;refine Y9 ?_;exact au d rfl rfl
 |false=>
  refine Y4 ?_;refine FW.pu c ?_;refine Y7 ?_;refine FW.pu f ?_;refine Y6 ?_;exact au d rfl rfl
theorem Ky(F:FF T)(hr:Rdy h){l:List Pb}(s:PbS h v l)(D:l.length<1000000){g:Nat}{cap:List Value}(P:Pb->Bool)
 (n:∀r∈l,Pu T g (pbV r::cap) h (.bool (P r))):Pu T 135 [v, .func (.func g) #[] cap.toArray] h (.int .i64 (wF P l 0)):=by
 refine .of F.p F.f231 hr rfl ?_;obtain⟨a,c,rfl⟩:=s.form;refine Y10 ?_
 refine cT (λm e q w=>∃i:Nat,i<=l.length/\m=l.length-i/\e=[(0, .slice a l.length c),(1, .func (.func g) #[] cap.toArray),(7, .int .i64 (l.length:Nat)),(8, .int .i64 (i:Nat))]/\q=[]/\h=w∧wF P l 0=wF P (l.drop i) i)
  ⟨0,md _,rfl,rfl,rfl,rfl,rfl⟩ ?_
 rintro m e q _ ⟨i,x,rfl,rfl,rfl,rfl,d⟩;by_cases hlt:i<l.length
 ·obtain⟨r,f⟩:∃r,l[i]? =some r:=⟨l[i],bx hlt⟩;have j:=eA f;obtain⟨b,o,A,I,z,t,y,B,C,u⟩:=s.elem f;cases y;have E:=u.all;have G:=xu (s.ok r j);have H:=n r j;have k:an .lss (.int .i64 (i:Nat)) (.int .i64 (l.length:Nat))=some (.bool true):=dY (by omega);rw[Hy P f]at d;refine Y19 ?_;refine mX (rB (all:=pbV r::cap) (by exact rfl) (by exact rfl) (by exact rfl) (by rw[dI,dI];simp[pbV])) ?_;refine FW.pu (by rw[hr.self];exact H) ?_;clear H n;cases hpr:P r with
  |true=>
   rw[hpr,if_pos rfl]at d;rw[d];refine Y12 ?_;exact au hr.log rfl rfl
  |false=>
   rw[hpr,if_neg (by simp)]at d;refine Y9 ?_;exact⟨l.length-(i+1),by omega,i+1,by omega,rfl,rfl,rfl,rfl,d⟩
 ·obtain rfl:i=l.length:=by omega
  have k:an .lss (.int .i64 (l.length:Nat)) (.int .i64 (l.length:Nat))=some (.bool false):=eM (by omega);rw[Ks]at d;rw[d];refine Y14 ?_;exact au hr.log rfl rfl
theorem N8(F:FF T)(hr:Rdy h){l:List Pb}(s:PbS h v l)(f:l.length<1000000):Pu T 93 [v] h (.int .i64 (prE l)):=by
 refine .of F.p F.f62 hr rfl ?_;obtain⟨a,c,rfl⟩:=s.form;have b:=hr.log;unfold prE;by_cases h8:8<l.length
 ·have e:an .gtr (.int .i64 (l.length:Nat)) (.int .i64 8)=some (.bool true):=fM (by omega);rw[if_pos h8];refine Y15 ?_;exact au b rfl rfl
 rw[if_neg h8];have e:an .gtr (.int .i64 (l.length:Nat)) (.int .i64 8)=some (.bool false):=gZ (by omega);have C:Pu T 116 [.slice a l.length c, .func (.func 117) #[] #[]] {h with log:=[]} (.bool (l.any oT)):=by
  refine .of F.p F.f155 (.of hr.wf) rfl ?_;have C:=Ky F (h:={h with log:=[]}) (.of hr.wf) (s.log []) f (g:=117) (cap:=[]) oT λr d=>RF F (.of hr.wf) (s.ok r d);rw[←CO oT l 0];generalize wF oT l 0=z at C⊢;refine Y7 ?_;refine FW.pu C ?_;clear C;have e:an .geq (.int .i64 z) (.int .i64 0)=some (.bool (decide (0<=z))):=tg;refine Y4 ?_;exact au rfl rfl rfl
 cases hb:l.any oT with
 |true=>
  rw[hb]at C;rw[if_pos rfl];refine Y16 ?_;refine FW.pu C ?_;refine Y7 ?_;exact au b rfl rfl
 |false=>
  rw[hb]at C;rw[if_neg (by simp)];refine Y16 ?_;refine FW.pu C ?_;refine Y8 ?_;exact au b rfl rfl
def fL(f:List Nat):List Value:=f.map λk=> .int .u8 (k:Nat)
def fV(f:List Nat):Value:= .agg (fL f).toArray
theorem dJ(f:List Nat):(fL f).length=f.length:=by simp[fL]
theorem ot:∀f:List Nat,eC (fL f)=true
 |[]=>rfl
 |_::f=>ot f
variable{f:List Nat}
theorem wz{i k:Nat}(h:f[i]? =some k):bK (fL f) (0+i*1)=some (.int .u8 (k:Nat)):=by
 rw[cH,hX,rt];simp[fL,h]
theorem iE(h:f.length=8):cG 8 (cw 0 (fL f))=fL f:=by
 rw[bQ,aW,py,gk (by rw[dJ];omega)]
theorem fP(h:f.length=8):Nat.beq (cF (fL f)) 8=true:=by rw[bX,dJ,h];rfl
theorem yg(f:List Nat):iL (.agg (fL f).toArray) (.agg (fL f).toArray)=true:=by
 refine lH ?_;rw[xn];induction f with
 |nil=>rfl
 |cons p f ih=>exact bI (iI _ _) ih
def quL(w:List Nat×List Nat)(pv nv ov mv:Value):List Value:=wL w++[pv,nv,ov,mv]
theorem Fc(a:IsW w)(e c d b:Value):(quL w e c d b).length=20:=by
 unfold quL;rw[ec,iY a];rfl
theorem VP(a:IsW w)(e c d b:Value):cG 16 (cw (0+0) (quL w e c d b))=wL w:=by
 have:=iY a;unfold quL;rw[bQ,aW,hX,py,j3 (by omega),gk (by omega)]
theorem VM(a:IsW w)(f c d b:Value):cG 8 (cw (0+0+0) (quL w f c d b))=us w.1:=by
 have h:=iY a;have e:=Qt a;rw[bQ,aW,hX,py]at e;unfold quL;rw[bQ,aW,hX,py,j3 (by omega)];exact e
theorem VN(a:IsW w)(f c d b:Value):cG 8 (cw (0+0+8) (quL w f c d b))=us w.2:=by
 have h:=iY a;have e:=Nr a;rw[bQ,aW,hX]at e;unfold quL;rw[bQ,aW,hX,sy (by omega),j3 (by rw[List.length_drop];omega)];exact e
theorem Bs(e:IsW w)(d b c a:Value)(i:Nat):bK (quL w d b c a) (16+i)=[d,b,c,a][i]? :=by
 have h:=iY e;unfold quL;rw[cH,gK (by omega),h,sb]
theorem rq(e:IsW w)(a c d b:Value):bK (quL w a c d b) (0+16)=some a:=Bs e a c d b 0
theorem Rn(e:IsW w)(d a c b:Value):bK (quL w d a c b) (0+17)=some a:=Bs e d a c b 1
theorem Ro(e:IsW w)(d c a b:Value):bK (quL w d c a b) (0+18)=some a:=Bs e d c a b 2
theorem VO(e:IsW w)(d b c a:Value):bK (quL w d b c a) (0+19)=some a:=Bs e d b c a 3
abbrev Zs:=List (Pb×Nat)
def alB(z:Zs)(s:List Nat):Bool:=z.all λx=> !(decide (x.2=2)&&sIn x.1.cells s)
def bsJ(s:List Nat)(x:Pb×Nat):List Nat:=if x.2=1 then lE s x.1.cells else s
def bsS(s:List Nat)(z:Zs):List Nat:=z.foldl bsJ s
def bsB(w:List Nat×List Nat)(z:Zs):Bool:=sIn (bsS w.1 z) w.2&&alB z (bsS w.1 z)
theorem tR:∀{z:Zs} {s:List Nat},IsS s->(∀x∈z,IsS x.1.cells)->IsS (bsS s z)
 |[],s,hs,_=>hs
 |x::z,s,hs,h=>by
  have hx:=h x b6;refine tR (z:=z) (s:=bsJ s x) ?_ λy a=>h y (bz _ a);unfold bsJ;split
  ·exact hs.join hx
  ·exact hs
theorem NM{l:List Pb}{i:Nat}{k:Nat}(b:l[i]? =some p)(a:f[i]? =some k):(l.zip f)[i]? =some (p,k):=List.getElem?_zip_eq_some.2 ⟨b,a⟩
theorem GR{l:List Pb}(h:l.length<=f.length):(l.zip f).length=l.length:=by rw[List.length_zip];omega
theorem yJ{l:List Pb}(h:∀p∈l,IsS p.cells):∀x∈l.zip f,IsS x.1.cells:=λx a=>h _ (List.of_mem_zip a).1
theorem Rr{z:Zs}{i:Nat}{x:Pb×Nat}(h:z[i]? =some x):z.take (i+1)=z.take i++[x]:=by
 obtain⟨a,rfl⟩:=List.getElem?_eq_some_iff.1 h;exact zs a
structure FJ (T:Nat->Option aq):Prop where
 p:aF T
 f35:T 46=some f35
 f121:T 76=some f121
 f143:T 63=some f143
 f174:T 75=some f174
 f207:T 64=some f207
 f226:T 95=some f226
variable{mv nv ov pv:Value}
theorem vS(F:FJ T)(hr:Rdy h){q:Nat}(hw:IsW w)(gq:h.get q=some (.cells (quL w pv nv ov mv) true 1)){l:List Pb}(U:PbS h pv l)(hl:l.length<=8)(hf:f.length=8)(O:IsS s):
 Pu T 95 [.pointer (some ⟨q,0,none⟩),fV f,sv s] h (.bool (alB (l.zip f) s)):=by
 refine .of F.p F.f226 hr rfl ?_;obtain⟨a,c,rfl⟩:=U.form;have N:cellsOf (fV f)=fL f:=by show(fL f).toArray.toList=_;simp
 have L:Ext h ((h.push (.cells (cellsOf (fV f)) true 1)).push (.cells (cellsOf (sv s)) true 1)):=((Ext.refl h).push _).push _;have g0:((h.push (.cells (cellsOf (fV f)) true 1)).push (.cells (cellsOf (sv s)) true 1)).get h.next=some (.cells (fL f) true 1):=by rw[N];exact(z4 (go _)).trans (z3 h _)
 have g1:((h.push (.cells (cellsOf (fV f)) true 1)).push (.cells (cellsOf (sv s)) true 1)).get (h.next+1)=some (.cells (us s) true 1):=z3 _ _;have n0:((h.push (.cells (cellsOf (fV f)) true 1)).push (.cells (cellsOf (sv s)) true 1)).next=h.next+2:=rfl
 refine Y5 ?_;generalize((h.push (.cells (cellsOf (fV f)) true 1)).push (.cells (cellsOf (sv s)) true 1))=H at*;have W:=L.wf hr.wf;have hL:=L.log.trans hr.log;have ae:=(L.old _ (hr.wf.bP gq)).trans gq;have V:=U.ext L;have kp:=rq hw (.slice a l.length c) nv ov mv;have k8:=bR O.len;have k9:=cS O.len;have Q:=GR (l:=l) (f:=f) (by omega);refine Y10 ?_
 refine cT (λm e X B=>∃i:Nat,i<=l.length/\m=l.length-i/\e=[(4, .pointer (some ⟨h.next,0,none⟩)),(5, .pointer (some ⟨h.next+1,0,none⟩)),(12, .slice a l.length c),(13, .int .i64 (l.length:Nat)),(14, .int .i64 (i:Nat))]/\X=[]/\Ext H B∧alB ((l.zip f).take i) s=true)
  ⟨0,md _,rfl,rfl,rfl, .refl H,rfl⟩ ?_
 rintro m e X G ⟨i,n,rfl,rfl,rfl,x,d⟩;have WG:=x.wf W;have D:=x.log.trans hL;have nG:=x.next
 by_cases hlt:i<l.length
 ·obtain⟨p,v⟩:∃r,l[i]? =some r:=⟨l[i],bx hlt⟩;obtain⟨k,I⟩:∃r,f[i]? =some r:=⟨f[i]'(by omega),bx _⟩;have g:=U.ok p (eA v);obtain⟨b,o,c2,vs,aw,t,hv,gl,hb,A⟩:=(V.ext x).elem v;cases hv;have k1:=A.all;have k2:=xu g;have k3:=kr g;have k4:=DA p;have S:an .lss (.int .i64 (i:Nat)) (.int .i64 (l.length:Nat))=some (.bool true):=dY (by omega);have y:=(x.old _ (by omega)).trans g0;have z:=(x.old _ (by omega)).trans g1;have hz:=NM v I;have j:alB ((l.zip f).take (i+1)) s=(alB ((l.zip f).take i) s&& !(decide (k=2)&&sIn p.cells s)):=by
   unfold alB;rw[Rr hz,List.all_append];simp
  have u:(decide (k=2)&&sIn p.cells s)=true->alB (l.zip f) s=false:=λq=>by
   unfold alB;rw[List.all_eq_false];exact⟨(p,k),eA hz,by rw[q];simp⟩
  refine Y9 ?_;refine cI (E0:=[(4, .pointer (some ⟨h.next,0,none⟩)),(5, .pointer (some ⟨h.next+1,0,none⟩)),(7, .int .i64 (i:Nat)),(8, .pointer (some ⟨G.next,0,none⟩)),(12, .slice (some ⟨b,o,none⟩) l.length c),(13, .int .i64 (l.length:Nat)),(14, .int .i64 (i:Nat))]) (P:=λB=>Ext G B∧B.next=G.next+1/\B.get G.next=some (.cells (pbL p) true 1)) ?_ ?_
  ·refine Y6 ?_;refine aG (dg (by exact rfl) (by exact rfl) YG (by assumption) (by exact rfl) (by assumption)) ?_;refine bH ?_;refine y1 ?_;exact⟨rfl,rfl,rfl,fK (by omega) _ _,rfl,gY _ _⟩
  rintro G2 ⟨K,n2,g2⟩;have M:=K.wf WG;have E:=K.log.trans D;have Y:=(K.old _ (by omega)).trans y;have Z:=(K.old _ (by omega)).trans z;have kf:=wz I;have kc:=qH g;have ar:=bR g.len;have J:=x.trans K;clear y z gl k1 k2 A;have mk:an .eql (.int .u8 (k:Nat)) (.int .u8 2)=some (.bool (decide (k=2))):=zL (c:=2) rfl;have C:=Ex F.p F.f35 F.f121 (h:={G2 with log:=[]}) (.of M) g O;cases hk2:decide (k=2)with
  |false=>
   rw[hk2]at mk j;refine Y20 ?_;exact⟨l.length-(i+1),by omega,i+1,by omega,rfl,rfl,rfl,J,by rw[j,d];rfl⟩
  |true=>
   rw[hk2]at mk j u;cases n:sIn p.cells s with
   |true=>
    rw[n]at C u;rw[u rfl];refine Y14 ?_;refine FW.pu C ?_;refine Y12 ?_;exact au E rfl rfl
   |false=>
    rw[n]at C j;refine Y14 ?_;refine FW.pu C ?_;refine Y10 ?_;exact⟨l.length-(i+1),by omega,i+1,by omega,rfl,rfl,rfl,J,by rw[j,d];rfl⟩
 ·obtain rfl:i=l.length:=by omega
  have S:an .lss (.int .i64 (l.length:Nat)) (.int .i64 (l.length:Nat))=some (.bool false):=eM (by omega);rw[←Q,q9]at d;rw[d];refine Y14 ?_;exact au D rfl rfl
theorem P7(s:List Nat)(b:Bool):cE (.tuple #[sv s, .bool b])=true:=by
 have q:flat (sv s)=true:=vG s;show jf [sv s, .bool b]=true;simp only[jf,q];rfl
theorem NY(F:FJ T)(hr:Rdy h){q:Nat}(y:IsW w)(gq:h.get q=some (.cells (quL w pv nv ov mv) true 1)){l:List Pb}(sp:PbS h pv l)(hl:l.length<=8)(hf:f.length=8):
 Pu T 63 [.pointer (some ⟨q,0,none⟩),fV f] h (.tuple #[sv (bsS w.1 (l.zip f)), .bool (bsB w (l.zip f))]):=by
 refine .of F.p F.f143 hr (P7 _ _) ?_;obtain⟨a,c,rfl⟩:=sp.form;have cj:cellsOf (fV f)=fL f:=by show(fL f).toArray.toList=_;simp
 have x0:Ext h ((h.push (.cells (cellsOf (fV f)) true 1)).push (.cells (aR 8 (.int .u64 0)) true 1)):=((Ext.refl h).push _).push _;have g0:((h.push (.cells (cellsOf (fV f)) true 1)).push (.cells (aR 8 (.int .u64 0)) true 1)).get h.next=some (.cells (fL f) true 1):=by rw[cj];exact(z4 (go _)).trans (z3 h _)
 have g1:((h.push (.cells (cellsOf (fV f)) true 1)).push (.cells (aR 8 (.int .u64 0)) true 1)).get (h.next+1)=some (.cells (us s0) true 1):=z3 _ _;have n0:((h.push (.cells (cellsOf (fV f)) true 1)).push (.cells (aR 8 (.int .u64 0)) true 1)).next=h.next+2:=rfl
 refine Y5 ?_;generalize((h.push (.cells (cellsOf (fV f)) true 1)).push (.cells (aR 8 (.int .u64 0)) true 1))=H at*;have W:=x0.wf hr.wf;have hL:=x0.log.trans hr.log;have E:=(x0.old _ (hr.wf.bP gq)).trans gq;have eI:=hr.wf.bP gq;have O:=sp.ext x0;have V:=g0;have Z:=g1;have B:=E;have bi:=O;have kp:=rq y (.slice a l.length c) nv ov mv;have ka:=VM y (.slice a l.length c) nv ov mv;have kb:=VN y (.slice a l.length c) nv ov mv;have du:=bR y.a.len;have dp:=cS y.a.len;have dv:=y.a.len;have dC:=bR y.b.len;have cJ:=GR (l:=l) (f:=f) (by omega);have ba:=yJ (f:=f) sp.ok;refine cI (E0:=[(0, .pointer (some ⟨q,0,none⟩)),(3, .pointer (some ⟨h.next,0,none⟩)),(4, .pointer (some ⟨h.next+1,0,none⟩)),(6, .pointer (some ⟨H.next,0,none⟩))]) (P:=λu=>Ext H u∧u.next=H.next+1/\u.get H.next=some (.cells (us w.1) true 1)) ?_ ?_
 ·refine Y7 ?_;refine aG (dg (by exact rfl) (by exact rfl) YG (by(simp only[aK];assumption)) (by exact rfl) (by exact dQ _)) ?_;refine bH ?_;refine y1 ?_;exact⟨rfl,rfl,rfl,fK (by omega) _ _,rfl,YG⟩
 rintro H1 ⟨Q,n1,U⟩;have W1:=Q.wf W;have da:=Q.log.trans hL;have bo:=(Q.old _ (by omega)).trans g0;have cd:=(Q.old _ (by omega)).trans g1;have ci:=(Q.old _ (by omega)).trans E;have cY:=O.ext Q;clear g0 g1 E O;refine Y10 ?_
 refine cT (λm e ds u=>∃i:Nat,i<=l.length/\m=l.length-i/\e=[(0, .pointer (some ⟨q,0,none⟩)),(3, .pointer (some ⟨h.next,0,none⟩)),(4, .pointer (some ⟨h.next+1,0,none⟩)),(6, .pointer (some ⟨H.next,0,none⟩)),(17, .slice a l.length c),(18, .int .i64 (l.length:Nat)),(19, .int .i64 (i:Nat))]/\ds=[]/\Ext H u∧H.next<u.next/\u.get H.next=some (.cells (us (bsS w.1 ((l.zip f).take i))) true 1))
  ⟨0,md _,rfl,rfl,rfl,Q,by omega,U⟩ ?_
 clear U bo cd ci cY;rintro m e ds G ⟨i,J,rfl,rfl,rfl,D,dj,U⟩;have WG:=D.wf W;have I:=D.log.trans hL;have nG:=D.next
 have X:=(D.old _ (by omega)).trans V;have cf:=(D.old _ (by omega)).trans Z;have ar:=(D.old _ (by omega)).trans B;have N:=bi.ext D;have d:IsS (bsS w.1 ((l.zip f).take i)):=tR y.a λx hx=>ba x (wt hx);by_cases hlt:i<l.length
 ·obtain⟨p,K⟩:∃r,l[i]? =some r:=⟨l[i],bx hlt⟩;obtain⟨k,aE⟩:∃r,f[i]? =some r:=⟨f[i]'(by omega),bx _⟩;have g:=sp.ok p (eA K);obtain⟨b,o,c2,vs,be,t,hv,gl,hb,ae⟩:=N.elem K;cases hv;have k1:=ae.all;have k2:=xu g;have k3:=kr g;have k4:=DA p;have cX:an .lss (.int .i64 (i:Nat)) (.int .i64 (l.length:Nat))=some (.bool true):=dY (by omega);have n:bsS w.1 ((l.zip f).take (i+1))=bsJ (bsS w.1 ((l.zip f).take i)) (p,k):=by
   unfold bsS;rw[Rr (NM K aE),yr];rfl
  generalize bsS w.1 ((l.zip f).take i)=s at*;have L:=bR d.len;have M:=cS d.len;have cP:=d.len;refine Y9 ?_;refine cI (E0:=[(0, .pointer (some ⟨q,0,none⟩)),(3, .pointer (some ⟨h.next,0,none⟩)),(4, .pointer (some ⟨h.next+1,0,none⟩)),(6, .pointer (some ⟨H.next,0,none⟩)),(7, .int .i64 (i:Nat)),(8, .pointer (some ⟨G.next,0,none⟩)),(17, .slice (some ⟨b,o,none⟩) l.length c),(18, .int .i64 (l.length:Nat)),(19, .int .i64 (i:Nat))]) (P:=λu=>Ext G u∧u.next=G.next+1/\u.get G.next=some (.cells (pbL p) true 1)) ?_ ?_
  ·refine Y6 ?_;refine aG (dg (by exact rfl) (by exact rfl) YG (by assumption) (by exact rfl) (by assumption)) ?_;refine bH ?_;refine y1 ?_;exact⟨rfl,rfl,rfl,fK (by omega) _ _,rfl,gY _ _⟩
  rintro G2 ⟨x2,n2,g2⟩;have bj:=x2.wf WG;have d9:=x2.log.trans I;have Y:=(x2.old _ (by omega)).trans X;have A:=(x2.old _ (by omega)).trans U;have kf:=wz aE;have kc:=qH g;have dE:=bR g.len;have v:=D.trans x2;clear X cf ar gl k1 k2 ae U N;have mk:an .eql (.int .u8 (k:Nat)) (.int .u8 1)=some (.bool (decide (k=1))):=zL (c:=1) rfl;have C:=F9 F.p F.f174 (h:={G2 with log:=[]}) (.of bj) d g;unfold bsJ at n;dsimp only at n;by_cases hk1:k=1
  ·rw[decide_eq_true hk1]at mk;rw[if_pos hk1]at n;have aw:=d.join g;generalize lE s p.cells=j at*;have eg:=bR aw.len;have eh:=aw.len;refine Y12 ?_;refine FW.pu C ?_;refine aG (dg (by exact rfl) (by exact rfl) (by assumption) (by(simp only[aK];assumption)) (by(simp only[aK];assumption)) (by exact dQ _)) ?_;refine bH ?_;refine y1 ?_;refine Vo ?_;refine KC ?_;refine uy ?_;refine Y3 ?_;refine⟨l.length-(i+1),by omega,i+1,by omega,rfl,rfl,rfl,⟨?_,?_,?_,?_⟩,?_,?_⟩
   ·exact gd v.next (bl _)
   ·rw[Heap.aD (by omega)];exact v.log
   ·intro z hz;exact(z5 (by omega)).trans (v.old z hz)
   ·intro wf;exact(v.wf wf).as (AS.wr h.next _ _ _)
   ·show H.next<G2.next;omega
   ·rw[n];(simp(disch:=first|omega|(simp only[z1,z2];omega))only[z3,z4,z5,z6,z7,z1,z2,V,Z,gq,B,g2,Y,A];done)
  ·rw[decide_eq_false hk1]at mk;rw[if_neg hk1]at n;refine Y14 ?_;exact⟨l.length-(i+1),by omega,i+1,by omega,rfl,rfl,rfl,v,by omega,by rw[n];exact A⟩
 ·obtain rfl:i=l.length:=by omega
  have cX:an .lss (.int .i64 (l.length:Nat)) (.int .i64 (l.length:Nat))=some (.bool false):=eM (by omega);rw[←cJ,q9]at U d;have C2:=vS F (h:={G with log:=[]}) (.of WG) y ar (N.log []) hl hf d;have S:=Ex F.p F.f35 F.f121 (h:={G with log:=[]}) (.of WG) d y.b;unfold bsB;generalize alB (l.zip f) (bsS w.1 (l.zip f))=al at*;generalize bsS w.1 (l.zip f)=s at*;have L:=bR d.len;have M:=cS d.len;have cP:=d.len;have dT:=iE hf;have e9:=fP hf;cases J:sIn s w.2 with
  |false=>
   rw[J]at S;refine Y20 ?_;refine FW.puD S (by(repeat apply aC rfl);apply ah rfl (af rfl (di (by exact rfl) (by assumption) (by assumption) (by assumption)) (by exact yh _)) rfl;exact aY) ?_;clear S C2;refine Y6 ?_;refine ve rfl rfl rfl (by exact rfl) (by exact rfl) (by exact rfl) (by assumption) (by(simp only[aK];assumption)) (by exact rfl) (by exact dQ _) (by omega) (by omega) (by apply ah rfl (af rfl (Au (by exact rfl) (by exact rfl)) (by exact GK _)) rfl;(repeat apply aC rfl);exact aY) ?_;refine Y5 ?_;refine au ?_ (dW (own:=true) (s:=1) rfl ?_ M L (tC rfl rfl)) rfl
   ·rw[Heap.aD (by omega)];exact I
   ·exact YG
  |true=>
   rw[J]at S;refine Y20 ?_;refine FW.puD S (by(repeat apply aC rfl);apply ah rfl (af rfl (di (by exact rfl) (by assumption) (by assumption) (by assumption)) (by exact yh _)) rfl;exact aY) ?_;clear S;refine Y5 ?_;refine FW.puD C2 (by(repeat apply aC rfl);apply ah rfl (af rfl (di (by exact rfl) (by assumption) (by assumption) (by assumption)) (by exact yh _)) rfl;exact aY) ?_;clear C2;refine aO rfl rfl rfl (by exact rfl) (by exact rfl) (by exact rfl) (vn (by exact rfl) (by exact rfl)) ?_;refine ve rfl rfl rfl (by exact rfl) (by exact rfl) (by exact rfl) (by assumption) (by(simp only[aK];assumption)) (by exact rfl) (by exact dQ _) (by omega) (by omega) (by apply ah rfl (af rfl (vn (by exact rfl) (by exact rfl)) (by exact GK _)) rfl;apply aC rfl;exact aY) ?_;refine Y5 ?_;refine au ?_ (dW (own:=true) (s:=1) rfl ?_ M L (tC rfl rfl)) rfl
   ·rw[Heap.aD (by omega)];exact I
   ·exact YG
structure NdS (h:Heap) (nv:Value) (ns:List (List (List Nat))):Prop where
 ex:∃vals:List Value,aJ h 1 nv ns.length vals/\∀(i:Nat) (r:List (List Nat)),ns[i]? =some r->∃v,vals[i]? =some v/\SsQ h v r
theorem NdS.ext{h h':Heap}{b:Value}{ns:List (List (List Nat))}(s:NdS h b ns)(x:Ext h h'):NdS h' b ns:=by
 obtain⟨a,e,f⟩:=s.ex;exact⟨a,e.ext x,λi r c=>by
  obtain⟨v,d,sv⟩:=f i r c;exact⟨v,d,sv.ext x⟩⟩
theorem NdS.log{h:Heap}{b:Value}{ns:List (List (List Nat))}(s:NdS h b ns)(m:List Nat):NdS {h with log:=m} b ns:=by
 obtain⟨a,e,f⟩:=s.ex;exact⟨a,e.log m,λi r c=>by
  obtain⟨v,d,sv⟩:=f i r c;exact⟨v,d,sv.log m⟩⟩
variable{ns:List (List (List Nat))}
theorem NdS.elem{g:Value}(s:NdS h g ns){i:Nat}{r:List (List Nat)}(hi:ns[i]? =some r):
 ∃b o c d a t v,g= .slice (some ⟨b,o,none⟩) ns.length c/\h.get b=some (.cells d a t)/\b<h.next/\bK d (o+i*1)=some v/\SsQ h v r:=by
 obtain⟨j,m,n⟩:=s.ex;obtain⟨v,f,sv⟩:=n i r hi;have l:=(List.getElem?_eq_some_iff.1 hi).1;rcases aJ.inv m with⟨_,_,h0,_⟩|⟨b,o,cap,hs,s3,hc⟩
 ·omega
 ·obtain⟨d,a,t,k,e⟩:=s3.obj;refine⟨b,o,cap,d,a,t,v,hs,k,s3.lt,?_,sv⟩;rw[bQ,aW]at e;rw[←e,gS (by omega),me]at f;rw[cH,rt];exact f
def y5(z:Zs)(s:List Nat)(r:List (List Nat)):Nat:=if r.any (λn=>sIn n s)then 1 else if r.any (λn=>alB z (lE s n))then 3 else 2
theorem HD(F:FJ T)(hr:Rdy h){q:Nat}(hw:IsW w)(gq:h.get q=some (.cells (quL w pv nv ov mv) true 1)){l:List Pb}(sp:PbS h pv l)(hl:l.length<=8)(Z:f.length=8)(M:IsS s)
 (sn:NdS h nv ns)(cj:ns.length<1000000){j:Nat}{r:List (List Nat)}(hj:ns[j]? =some r)(cJ:r.length<1000000):
 Pu T 64 [.pointer (some ⟨q,0,none⟩),fV f,sv s, .int .i64 (j:Nat)] h (.int .u8 ((y5 (l.zip f) s r:Nat):Int)):=by
 refine .of F.p F.f207 hr rfl ?_;have ae:cellsOf (fV f)=fL f:=by show(fL f).toArray.toList=_;simp
 have S:Ext h ((h.push (.cells (cellsOf (fV f)) true 1)).push (.cells (cellsOf (sv s)) true 1)):=((Ext.refl h).push _).push _;have g0:((h.push (.cells (cellsOf (fV f)) true 1)).push (.cells (cellsOf (sv s)) true 1)).get h.next=some (.cells (fL f) true 1):=by rw[ae];exact(z4 (go _)).trans (z3 h _)
 have g1:((h.push (.cells (cellsOf (fV f)) true 1)).push (.cells (cellsOf (sv s)) true 1)).get (h.next+1)=some (.cells (us s) true 1):=z3 _ _;have n0:((h.push (.cells (cellsOf (fV f)) true 1)).push (.cells (cellsOf (sv s)) true 1)).next=h.next+2:=rfl
 refine Y5 ?_;refine Nq ?_;generalize((h.push (.cells (cellsOf (fV f)) true 1)).push (.cells (cellsOf (sv s)) true 1))=H at*;have W:=S.wf hr.wf;have hL:=S.log.trans hr.log;have aw:=hr.wf.bP gq;have Y:=(S.old _ aw).trans gq;have ba:=sp.ext S;have kn:=Rn hw pv nv ov mv;have cf:=(List.getElem?_eq_some_iff.1 hj).1;obtain⟨nb,no,nc,du,bj,nt,v,ar,gn,ci,gv,sr⟩:=(sn.ext S).elem hj;subst ar;have Q:=sr;obtain⟨a,c,rfl⟩:=sr.sl.form;have cY:=bR M.len;have d9:=cS M.len;have cP:=iE Z;have cX:=fP Z;unfold y5;refine Y19 ?_
 refine cT (λm e ds J=>∃i:Nat,i<=r.length/\m=r.length-i/\e=[(0, .pointer (some ⟨q,0,none⟩)),(5, .pointer (some ⟨h.next,0,none⟩)),(6, .pointer (some ⟨h.next+1,0,none⟩)),(9, .int .u8 ((if(r.take i).any (λn=>alB (l.zip f) (lE s n))then 3 else 2:Nat):Int)),(18, .slice a r.length c),(19, .int .i64 (r.length:Nat)),(20, .int .i64 (i:Nat))]/\ds=[]/\Ext H J∧(r.take i).any (λn=>sIn n s)=false)
  ⟨0,md _,rfl,rfl,rfl, .refl H,rfl⟩ ?_
 rintro m e ds G ⟨i,cd,rfl,rfl,rfl,t,z⟩;have WG:=t.wf W;have K:=t.log.trans hL;have nG:=t.next
 by_cases hlt:i<r.length
 ·obtain⟨x,N⟩:∃s,r[i]? =some s:=⟨r[i],bx hlt⟩;have d:=Q.ok x (eA N);obtain⟨b,o,c3,vs,dv,tt,hv,gl,bo,el⟩:=(Q.ext t).elem N;cases hv;have da:=bR d.len;have dj:=cS d.len;have dp:=d.len;have aE:an .lss (.int .i64 (i:Nat)) (.int .i64 (r.length:Nat))=some (.bool true):=dY (by omega);have C:=(t.old _ (by omega)).trans g0;have D:=(t.old _ (by omega)).trans g1;have E:=(t.old _ (by omega)).trans Y;have g:(r.take (i+1)).any (λn=>sIn n s)=((r.take i).any (λn=>sIn n s)||sIn x s):=by rw[fU N,List.any_append];simp
  have k:(r.take (i+1)).any (λn=>alB (l.zip f) (lE s n))=((r.take i).any (λn=>alB (l.zip f) (lE s n))||alB (l.zip f) (lE s x)):=by rw[fU N,List.any_append];simp
  have O:sIn x s=true->r.any (λn=>sIn n s)=true:=λq=>List.any_eq_true.2 ⟨x,eA N,q⟩;generalize(r.take i).any (λn=>alB (l.zip f) (lE s n))=bb at*;refine Y9 ?_;refine cI (E0:=[(0, .pointer (some ⟨q,0,none⟩)),(5, .pointer (some ⟨h.next,0,none⟩)),(6, .pointer (some ⟨h.next+1,0,none⟩)),(9, .int .u8 ((if bb then 3 else 2:Nat):Int)),(11, .pointer (some ⟨G.next,0,none⟩)),(18, .slice (some ⟨b,o,none⟩) r.length c),(19, .int .i64 (r.length:Nat)),(20, .int .i64 (i:Nat))]) (P:=λJ=>Ext G J∧J.next=G.next+1/\J.get G.next=some (.cells (us x) true 1)) ?_ ?_
  ·refine Y4 ?_;refine aG (dg (by exact rfl) (by exact rfl) YG (by(simp only[aK];assumption)) (by exact rfl) (by exact dQ _)) ?_;refine bH ?_;refine y1 ?_;exact⟨rfl,rfl,rfl,fK (by omega) _ _,rfl,YG⟩
  rintro X ⟨B,n2,g2⟩;have y:=B.wf WG;have L:=B.log.trans K;have be:=(B.old _ (by omega)).trans C;have bi:=(B.old _ (by omega)).trans D;have I:=(B.old _ (by omega)).trans E;have A:=t.trans B;have u:=Ex F.p F.f35 F.f121 (h:={X with log:=[]}) (.of y) d M;have U:=F9 F.p F.f174 (h:={X with log:=[]}) (.of y) M d;have V:=vS F (h:={X with log:=[]}) (.of y) hw I ((ba.ext A).log []) hl Z (M.join d);clear C D E gl el;generalize alB (l.zip f) (lE s x)=ab at*;generalize lE s x=jx at*;cases hin2:sIn x s with
  |true=>
   rw[hin2]at u;rw[if_pos (O hin2)];refine Y5 ?_;refine FW.pu u ?_;refine Y7 ?_;refine Vp (by exact rfl) ?_;refine Vp (by exact rfl) ?_;refine Y9 ?_;exact au L rfl rfl
  |false=>
   rw[hin2]at u g;rw[z]at g;cases ab with
   |true=>
    rw[Bool.or_true]at k;refine Y5 ?_;refine FW.pu u ?_;clear u;refine Y10 ?_;refine FW.puD U (by(repeat apply aC rfl);apply ah rfl (af rfl (di (by exact rfl) (by assumption) (by assumption) (by assumption)) (by exact yg _)) rfl;apply ah rfl (af rfl (dD (by exact rfl)) (by exact aV _)) rfl;exact aY) ?_;clear U;skip;refine qC ?_;refine FW.puD V (by(repeat apply aC rfl);exact aY) ?_;clear V;refine Y7 ?_;refine bH ?_;refine Y8 ?_;exact⟨r.length-(i+1),by omega,i+1,by omega,rfl,by rw[k];rfl,rfl,A,g⟩
   |false=>
    rw[Bool.or_false]at k;refine Y5 ?_;refine FW.pu u ?_;clear u;refine Y10 ?_;refine FW.puD U (by(repeat apply aC rfl);apply ah rfl (af rfl (di (by exact rfl) (by assumption) (by assumption) (by assumption)) (by exact yg _)) rfl;apply ah rfl (af rfl (dD (by exact rfl)) (by exact aV _)) rfl;exact aY) ?_;clear U;skip;refine qC ?_;refine FW.puD V (by(repeat apply aC rfl);exact aY) ?_;clear V;refine Y13 ?_;exact⟨r.length-(i+1),by omega,i+1,by omega,rfl,by rw[k],rfl,A,g⟩
 ·obtain rfl:i=r.length:=by omega
  have aE:an .lss (.int .i64 (r.length:Nat)) (.int .i64 (r.length:Nat))=some (.bool false):=eM (by omega);rw[q9]at z⊢;rw[if_neg (by rw[z];simp)];refine Y15 ?_;exact au K rfl rfl
end Go.A.Pk
end
section
namespace Go.Proofs
open Go.Shelf
def Tryz.rQ:Go.Shelf.Ren:=⟨fun|6=>84|15=>113|14=>112|28=>132|29=>133|20=>124|21=>125|22=>126|23=>127|24=>128|25=>129|26=>130|27=>131|46=>142|47=>143|48=>144|49=>145|50=>146|57=>147|n=>n,fun|22=>28|24=>24|25=>149|3=>3|39=>44|0=>0|53=>192|55=>22|4=>4|46=>186|45=>185|50=>97|5=>5|9=>9|66=>197|70=>201|76=>203|77=>204|n=>n,fun|n=>n⟩
theorem Tryz.pM:Go.Proofs.SlLaysF0.n6 Tryz.prog Tryz.rQ:={
 mixed:=by kernel_rfl
 f6:=⟨Tryz.f84.name,by decide,Tryz.func84.trans (congrArg some (by kernel_rfl))⟩
 f14:=⟨Tryz.f112.name,by decide,Tryz.func112.trans (congrArg some (by kernel_rfl))⟩
 f15:=Tryz.func113.trans (congrArg some (by kernel_rfl))
 f20:=⟨Tryz.f124.name,by decide,Tryz.func124.trans (congrArg some (by kernel_rfl))⟩
 f21:=⟨Tryz.f125.name,by decide,Tryz.func125.trans (congrArg some (by kernel_rfl))⟩
 f22:=⟨Tryz.f126.name,by decide,Tryz.func126.trans (congrArg some (by kernel_rfl))⟩
 f23:=⟨Tryz.f127.name,by decide,Tryz.func127.trans (congrArg some (by kernel_rfl))⟩
 f24:=⟨Tryz.f128.name,by decide,Tryz.func128.trans (congrArg some (by kernel_rfl))⟩
 f25:=⟨Tryz.f129.name,by decide,Tryz.func129.trans (congrArg some (by kernel_rfl))⟩
 f26:=⟨Tryz.f130.name,by decide,Tryz.func130.trans (congrArg some (by kernel_rfl))⟩
 f27:=⟨Tryz.f131.name,by decide,Tryz.func131.trans (congrArg some (by kernel_rfl))⟩
 f28:=Tryz.func132.trans (congrArg some (by kernel_rfl))
 f29:=Tryz.func133.trans (congrArg some (by kernel_rfl))
 f46:=⟨Tryz.f142.name,by decide,Tryz.func142.trans (congrArg some (by kernel_rfl))⟩
 f47:=Tryz.func143.trans (congrArg some (by kernel_rfl))
 f48:=Tryz.func144.trans (congrArg some (by kernel_rfl))
 f49:=⟨Tryz.f145.name,by decide,Tryz.func145.trans (congrArg some (by kernel_rfl))⟩
 f50:=⟨Tryz.f146.name,by decide,Tryz.func146.trans (congrArg some (by kernel_rfl))⟩
 f57:=⟨Tryz.f147.name,by decide,Tryz.func147.trans (congrArg some (by kernel_rfl))⟩
 t0:=Tryz.underlying0
 a0:=Tryz.isAgg0
 z0:=Tryz.sizeOf0
 v0:=Tryz.zeroValue0
 t3:=Tryz.underlying3
 a3:=Tryz.isAgg3
 z3:=Tryz.sizeOf3
 v3:=Tryz.zeroValue3
 t4:=Tryz.underlying4
 a4:=Tryz.isAgg4
 z4:=Tryz.sizeOf4
 v4:=Tryz.zeroValue4
 t5:=Tryz.underlying5
 a5:=Tryz.isAgg5
 z5:=Tryz.sizeOf5
 v5:=Tryz.zeroValue5
 t9:=Tryz.underlying9
 a9:=Tryz.isAgg9
 z9:=Tryz.sizeOf9
 v9:=Tryz.zeroValue9
 t22:=Tryz.underlying28
 a22:=Tryz.isAgg28
 z22:=Tryz.sizeOf28
 v22:=Tryz.zeroValue28
 t25:=Tryz.underlying149
 a25:=Tryz.isAgg149
 z25:=Tryz.sizeOf149
 v25:=Tryz.zeroValue149
 t39:=Tryz.underlying44
 a39:=Tryz.isAgg44
 z39:=Tryz.sizeOf44
 v39:=Tryz.zeroValue44
 t45:=Tryz.underlying185
 a45:=Tryz.isAgg185
 z45:=Tryz.sizeOf185
 v45:=Tryz.zeroValue185
 t46:=Tryz.underlying186
 a46:=Tryz.isAgg186
 z46:=Tryz.sizeOf186
 v46:=Tryz.zeroValue186
 t50:=Tryz.underlying97
 a50:=Tryz.isAgg97
 z50:=Tryz.sizeOf97
 v50:=Tryz.zeroValue97
 t53:=Tryz.underlying192
 a53:=Tryz.isAgg192
 z53:=Tryz.sizeOf192
 v53:=Tryz.zeroValue192
 t55:=Tryz.underlying22
 a55:=Tryz.isAgg22
 z55:=Tryz.sizeOf22
 v55:=Tryz.zeroValue22
 t66:=Tryz.underlying197
 a66:=Tryz.isAgg197
 z66:=Tryz.sizeOf197
 v66:=Tryz.zeroValue197
 t70:=Tryz.underlying201
 a70:=Tryz.isAgg201
 z70:=Tryz.sizeOf201
 v70:=Tryz.zeroValue201
 t76:=Tryz.underlying203
 a76:=Tryz.isAgg203
 z76:=Tryz.sizeOf203
 v76:=Tryz.zeroValue203
 t77:=Tryz.underlying204
 a77:=Tryz.isAgg204
 z77:=Tryz.sizeOf204
 v77:=Tryz.zeroValue204}
open Go.RowKit Go.Lib Go.Sort in
theorem Tryz.slices_SortFunc_none(p:Option Addr)(cap:Nat)(a:Value)(w:World):
 Calls Tryz.prog 84 #[.slice p 0 cap,a] w λe w'=>e= .returned (.tuple #[])/\w'=w:=AnyF.slices_SortFunc_none Tryz.pM p cap a w
end Go.Proofs
end
section
namespace Go.A.Pk
open Go Go.Proofs Go.Sort
theorem nF:∀{a b:List Nat},a.length=b.length->cmpL b a= -cmpL a b
 |[],[],_=>rfl
 |[],_::_,h=>by cases h
 |_::_,[],h=>by cases h
 |x::a,y::b,h=>by
  unfold cmpL;by_cases h1:x<y
  ·rw[if_neg (by omega),if_pos h1,if_pos h1];rfl
  ·by_cases h2:y<x
   ·rw[if_pos h2,if_neg h1,if_pos h2]
   ·rw[if_neg h2,if_neg h1,if_neg h1,if_neg h2];exact nF (by simpa using h)
theorem qx:∀{a b:List Nat},a.length=b.length->cmpL a b=0->a=b
 |[],[],_,_=>rfl
 |[],_::_,h,_=>by cases h
 |_::_,[],h,_=>by cases h
 |x::a,y::b,h,h0=>by
  unfold cmpL at h0;by_cases h1:x<y
  ·rw[if_pos h1]at h0;cases h0
  ·by_cases h2:y<x
   ·rw[if_neg h1,if_pos h2]at h0;cases h0
   ·rw[if_neg h1,if_neg h2]at h0;rw[show x=y by omega,qx (by simpa using h) h0]
theorem rF:∀{a b c:List Nat},a.length=b.length->b.length=c.length->cmpL a b<0->cmpL b c<0->cmpL a c<0
 |[],[],_,_,_,h,_=>by unfold cmpL at h;omega
 |[],_::_,_,h,_,_,_=>by cases h
 |_::_,[],_,h,_,_,_=>by cases h
 |_::_,_::_,[],_,h,_,_=>by cases h
 |x::a,y::b,z::c,h1,h2,q1,q2=>by
  unfold cmpL at q1 q2⊢;by_cases a1:x<y
  ·by_cases b1:y<z
   ·rw[if_pos (show x<z by omega)];omega
   ·rw[if_neg b1]at q2;by_cases b2:z<y
    ·rw[if_pos b2]at q2;omega
    ·rw[if_pos (show x<z by omega)];omega
  ·rw[if_neg a1]at q1;by_cases a2:y<x
   ·rw[if_pos a2]at q1;omega
   ·rw[if_neg a2]at q1;by_cases b1:y<z
    ·rw[if_pos (show x<z by omega)];omega
    ·rw[if_neg b1]at q2;by_cases b2:z<y
     ·rw[if_pos b2]at q2;omega
     ·rw[if_neg b2]at q2;rw[if_neg (show¬x<z by omega),if_neg (show¬z<x by omega)];exact rF (by simpa using h1) (by simpa using h2) q1 q2
abbrev Sol:={l:List Nat // IsS l}
instance:Inhabited Sol:=⟨⟨s0,Gy⟩⟩
def wo(x:Sol):List Value:=us x.1
def cfS(x y:Sol):Int:=cmpL x.1 y.1
theorem jQ(x y:Sol):x.1.length=y.1.length:=x.2.len.trans y.2.len.symm
theorem N7:SWO (ltOf cfS):=by
 refine⟨λx=> ?_,λx y z a b=> ?_,λx y z a b=> ?_⟩
 ·unfold ltOf cfS;rw[tU];rfl
 ·unfold ltOf cfS at*;rw[decide_eq_true_eq]at*;exact rF (jQ x y) (jQ y z) a b
 ·unfold ltOf cfS at*;rw[decide_eq_false_iff_not]at*;have c:=nF (jQ x y);have d:=nF (jQ y z);have f:=nF (jQ x z);rcases Int.lt_or_eq_of_le (show cmpL y.1 x.1<=0 by omega)with q|q
  ·rcases Int.lt_or_eq_of_le (show cmpL z.1 y.1<=0 by omega)with p|p
   ·have:=rF (jQ z y) (jQ y x) p q;omega
   ·have e:=qx (jQ z y) p;rw[e];omega
  ·have e:=qx (jQ y x) q;rw[←e];omega
theorem JP(x y:Sol)(h1:ltOf cfS x y=false)(b:ltOf cfS y x=false):x=y:=by
 unfold ltOf cfS at*;rw[decide_eq_false_iff_not]at*;have a:=nF (jQ x y);exact Subtype.ext (qx (jQ x y) (by omega))
theorem Cz(x:Sol):(wo x).length=8:=by unfold wo;rw[aK,x.2.len]
theorem F5(d:Array Sol):flatK wo 8 d=(ssL (d.toList.map (·.1))).toArray:=by
 have a:∀s∈d.toList.map (·.1),IsS s:=λs h=>by
  obtain⟨x,_,rfl⟩:=List.mem_map.1 h;exact x.2
 have f:(ssL (d.toList.map (·.1))).length=d.size*8:=by rw[fQ a];simp
 apply ext_get! ((size_flatK wo 8 d).trans f.symm);intro t i;have b:t<d.size*8:=by simpa using i
 rw[get_flatK _ _ _ t b];have c:t / 8<d.size:=by omega
 have j:(d.toList.map (·.1))[t / 8]? =some (d[t / 8]!).1:=by
  rw[rb,Cl,Array.getElem?_eq_getElem c,getElem!_pos d (t / 8) c];rfl
 have g:=GF a j;have e:((ssL (d.toList.map (·.1))).drop (t / 8*8))[t % 8]? =(us (d[t / 8]!).1)[t % 8]? :=by
  rw[←g,gS (by omega)]
 rw[me,show t / 8*8+t % 8=t by omega]at e;have k:(us (d[t / 8]!).1).length=8:=Cz _;rw[bx (by omega),bx (by omega),Option.some.injEq]at e;show(us (d[t / 8]!).1)[t % 8]! =(ssL (d.toList.map (·.1))).toArray[t]!;rw[getElem!_pos _ (t % 8) (by omega),getElem!_pos _ t (show t<(ssL (d.toList.map (·.1))).length by rw[f];exact b),←e];rfl
theorem Cy:Rdy (⟨[],1000,[]⟩:Heap):=⟨⟨by simp,by intro b a;simp at a⟩,rfl⟩
theorem LR.flat{μ:Mu}:∀{l:List Value},(∀a∈l,cE a=true)->LR μ l l
 |[],_=> .nil
 |a::l,h=> .cons (VR.cE (h a b6)).1 (LR.flat λx hx=>h x (bz _ hx))
theorem uH{P:Program}{T:Nat->Option aq}(S:ez P T)(x:P.globals.size<=1000){f:Nat}{args:List Value}{v:Value}(h:gw (T f)=false)(H:Pu T f args ⟨[],1000,[]⟩ v)(u:∀a∈args,cE a=true)(E:cE v=true)(w:World):
 Calls P f args.toArray w λe c=>e= .returned v/\∃q os',c=Sort.grow (w.drewN q) os':=by
 obtain⟨J,G,⟨m,B⟩,rfl,rfl⟩:=H;have d:=B m (bl _);refine(mM S d rfl h (R.none (P:=P) (w:=w) x) (LR.flat u)).mono λe c C=> ?_;obtain⟨μ',l,I,n⟩:=C;cases e with
 |returned v'=>
  have j:VR μ' v v':=l;rw[(VR.cE E).2 _ j];have z:∀r,r<w.heap.size->c.heap[r]? =w.heap[r]? :=λr D=>n.keep r D λ⟨b,o,k,g,_⟩=>by cases g
  refine⟨rfl,c.drawn-w.drawn,c.heap.extract w.heap.size c.heap.size,?_⟩;have A:=n.le;have y:c.heap=w.heap++c.heap.extract w.heap.size c.heap.size:=by
   apply Array.ext_getElem?;intro i;by_cases hi:i<w.heap.size
   ·rw[z i hi,Array.getElem?_append_left hi]
   ·rw[Array.getElem?_append_right (by omega),Array.getElem?_extract];by_cases h2:i<c.heap.size
    ·rw[if_pos (by omega)];congr 1;omega
    ·rw[if_neg (by omega),Array.getElem?_eq_none (by omega)]
  obtain⟨p,s,t,F⟩:=n.same;cases w with
  |mk a1 a2 a3 a4 a5=>
   cases c with
   |mk b1 b2 b3 b4 b5=>
    dsimp only at p s t F y;subst p;subst s;subst t;show World.mk b1 _ b3 _ _=World.mk (a1++_) _ (a3+(b3-a3)) _ _;rw[show a3+(b3-a3)=b3 by omega];congr 1
 |panicked _=>exact l.elim
 |outgrown=>exact l.elim
theorem WK:aM Tryz.prog Tryz.f111 [[2,3],[4]]=some f168:=by kernel_rfl
theorem WL:aM Tryz.prog Tryz.f85 [[2,3],[4]]=some f190:=by kernel_rfl
theorem WN:aM Tryz.prog Tryz.f86 [[0,1],[0,1,9,10,11],[0,1,9,10,11,12],[0,1,5,6,9,10,11],[0,1,5,6,9,10,11,19],[4],[0,1,6,7,9,10,11],[0,1,8,9,10,11],[0,1,8,9,10,11,28],[4],[0,1,9,10,11],[35],[4],[4]]=some f191:=by kernel_rfl
theorem WQ:aM Tryz.prog Tryz.f114 [[0,1],[0,1,5],[0,1,5,6],[0,1,6,11],[12],[4],[4],[0,1,13],[4],[0,1,16],[4],[19],[4],[4]]=some f256:=by kernel_rfl
theorem WR:aM Tryz.prog Tryz.f134 [[0],[2]]=some f315:=by kernel_rfl
def Ni:Tr:=(.node (.node (.node .nil 85 f190 .nil) 86 f191 .nil) 111 f168 (.node (.node .nil 114 f256 .nil) 134 f315 .nil))
def TC:Nat->Option aq:=Ni.get
theorem Wz:Ni.all (Entry Tryz.prog):=by
 unfold Ni;exact(Tr.aa (Tr.aa (Tr.aa Tr.all_nil (.of Tryz.func85 WL) Tr.all_nil) (.of Tryz.func86 WN) Tr.all_nil) (.of Tryz.func111 WK) (Tr.aa (Tr.aa Tr.all_nil (.of Tryz.func114 WQ) Tr.all_nil) (.of Tryz.func134 WR) Tr.all_nil))
theorem Fp:ez Tryz.prog TC:=qR (by kernel_rfl) Wz
theorem Vi:zg TC:={p:=Fp.aF,f191:=by kernel_rfl,f256:=by kernel_rfl,f315:=by kernel_rfl}
theorem Hg(k:Nat)(d:k=111∨k=85)(x y:Sol)(w:World):Calls Tryz.prog k #[.agg (wo x).toArray, .agg (wo y).toArray] w λe w'=>e= .returned (.int .i64 (cfS x y))/\∃q os',w'=Sort.grow (w.drewN q) os':=by
 have c:∀a∈[sv x.1,sv y.1],cE a=true:=λa b=>by
  rcases List.mem_cons.1 b with rfl|b
  ·exact jS _
  ·rw[List.mem_singleton.1 b];exact jS _
 rcases d with rfl|rfl
 ·exact uH Fp nI (by kernel_rfl) (OG Vi (by kernel_rfl) Cy x.2 y.2) c rfl w
 ·exact uH Fp nI (by kernel_rfl) (OH Vi (by kernel_rfl) Cy x.2 y.2) c rfl w
theorem OQ(l:List (List Nat))(h:∀s∈l,IsS s):∃d:List Sol,d.map (·.1)=l:=⟨l.attach.map λx=>⟨x.1,h _ x.2⟩,by simp⟩
theorem MP(d:List Sol):(d.mergeSort λx y=> !(ltOf cfS) y x).map (·.1)=eV (d.map (·.1)):=by
 unfold eV;exact List.map_mergeSort λa _ b _=>rfl
theorem En(k:Nat)(a:k=111∨k=85):∀args w,(callFunc k args).run Tryz.prog w= .ok (.enter k args) w:=by
 rcases a with rfl|rfl
 ·exact enters_of Tryz.func111 (by kernel_rfl) rfl
 ·exact enters_of Tryz.func85 (by kernel_rfl) rfl
theorem VJ:Entry Tryz.prog 84 (.lD (pX 111 85)):=by
 refine .lD (Il Tryz.func84 (of_decide_eq_true (by kernel_rfl)) (by kernel_rfl) (λk p c w=>Tryz.slices_SortFunc_none p c _ w) ?_);intro k r a b c l w q u f A;obtain⟨d,j⟩:=OQ l q;have o:flatK wo 8 d.toArray=(ssL l).toArray:=by rw[F5];simp[j]
 have g:d.length=l.length:=by rw[←j];simp
 have h:=AnyQ.slices_SortFunc_total Tryz.pM 8 (Tryz.isAgg24) (Tryz.sizeOf24) wo Cz (λx v B=>by
  obtain⟨n,_,rfl⟩:=List.mem_map.1 B;rfl) cfS N7 k #[] a b c d.toArray w (En k r) (λm i t s x y=>by
   have:=Hg k r x y (sortWorldK wo 8 w a b m t i);simpa using this) (by
   show Holds id w a b (flatK wo 8 d.toArray);rw[o];exact u) f (by simpa[g]using A) JP
 have s:d.toArray.size=l.length:=by simpa using g
 rw[s]at h;refine h.mono λe D ⟨z,n,i,C⟩=>⟨z,n,i,?_⟩;rw[C];show Sort.grow (putRow id (Sort.ahead w n) a b (flatK wo 8 _)) i=_;rw[F5];congr 2;have:=MP d;rw[j]at this;simpa using congrArg ssL this
end Go.A.Pk
end
section
namespace Go.A.Pk
open Go.Sort Go.Proofs
def SLt(a b:List Nat):Prop:=cmpL a b<0
end Go.A.Pk
end
section
namespace Go.A.Pk
variable {T:Nat->Option aq}
variable{w:List Nat×List Nat}{s:List Nat}
theorem Lv(a:IsW w){o:List Nat}(h:s∈dR w o):IsS s:=Dh a (List.mem_filter.1 h).1
theorem HN(w:List Nat×List Nat)(o:List Nat):(dR w o).length<=98304:=gd (Co ..) (zP w o)
variable{a b c:List Nat}
theorem Sub.trans(h1:Sub a b)(d:Sub b c):Sub a c:=λx e=>d x (h1 x e)
theorem IF(d:IsS a)(hb:IsS b):Sub a (lE a b):=λc e=>by rw[uw d hb,e];rfl
theorem IG(d:IsS a)(hb:IsS b):Sub b (lE a b):=λc e=>by rw[uw d hb,e,Bool.or_true]
theorem KA(f:IsS a)(hb:IsS b)(h1:Sub a c)(e:Sub b c):Sub (lE a b) c:=λx d=>by
 rw[uw f hb,oB]at d;exact d.elim (h1 x) (e x)
theorem sN:∀{z:Zs} {s:List Nat},IsS s->(∀x∈z,IsS x.1.cells)->Sub s (bsS s z)
 |[],s,_,_=>λc hc=>hc
 |x::z,s,hs,h=>by
  have hx:=h x b6;have a:∀y∈z,IsS y.1.cells:=λy b=>h y (bz _ b);show Sub s (bsS (bsJ s x) z);unfold bsJ;split
  ·exact(IF hs hx).trans (sN (hs.join hx) a)
  ·exact sN hs a
theorem vq:∀{z:Zs} {s:List Nat},IsS s->(∀x∈z,IsS x.1.cells)->∀x∈z,x.2=1->Sub x.1.cells (bsS s z)
 |[],_,_,_,x,hx,_=>by cases hx
 |y::z,s,hs,h,x,hx,h1=>by
  have a:=h y b6;have b:∀y∈z,IsS y.1.cells:=λy a=>h y (bz _ a);show Sub x.1.cells (bsS (bsJ s y) z);rcases List.mem_cons.1 hx with rfl|hx
  ·unfold bsJ;rw[if_pos h1];exact(IG hs a).trans (sN (hs.join a) b)
  ·unfold bsJ;split
   ·exact vq (hs.join a) b x hx h1
   ·exact vq hs b x hx h1
theorem qw:∀{z:Zs} {s t:List Nat},IsS s->(∀x∈z,IsS x.1.cells)->Sub s t->(∀x∈z,x.2=1->Sub x.1.cells t)->Sub (bsS s z) t
 |[],_,_,_,_,h1,_=>h1
 |x::z,s,t,hs,h,h1,h2=>by
  have hx:=h x b6;have b:∀y∈z,IsS y.1.cells:=λy a=>h y (bz _ a);show Sub (bsS (bsJ s x) z) t;unfold bsJ;split
  ·rename_i hk;exact qw (hs.join hx) b (KA hs hx h1 (h2 x b6 hk)) λy a=>h2 y (bz _ a)
  ·exact qw hs b h1 λy a=>h2 y (bz _ a)
theorem Ax{z:Zs}:alB z s=true↔ ∀x∈z,x.2=2->sIn x.1.cells s=false:=by
 unfold alB;rw[zFS];refine⟨λh x b a=> ?_,λh x b=> ?_⟩
 ·have:=h x b;rw[decide_eq_true a,rn,Bool.not_eq_true']at this;exact this
 ·by_cases a:x.2=2
  ·rw[h x b a,Bool.and_false];rfl
  ·rw[decide_eq_false a];rfl
def WH(t:List Nat)(p:Pb):Nat:=if sIn p.cells t then 1 else 2
variable{lo:Nat}{h:Heap}{v:Value}
theorem OwS.Rh{h':Heap}{l:List (List Nat)}(q:OwS lo h v l)(d:h.next<=h'.next)(a:∀z,vB v z->h'.get z=h.get z):OwS lo h' v l:=by
 rcases q with q|⟨b,c,t,h1,h2,h3,rfl,h4⟩
 ·exact .inl q
 ·exact .inr ⟨b,c,t,h1,by omega,(a b ⟨_,_,rfl⟩).trans h3,rfl,h4⟩
theorem Mq(f:IsW w)(d g c b v:Value)(e:cellsOf v=[v]):cW (quL w d g c b) (0+17) (cellsOf v)=quL w d v c b:=by
 have a:=iY f;rw[e];unfold quL;rw[eY (by rw[ec,a];simp),hX,List.take_append,gk (by omega),a,GE,pA (by simp;omega),a];simp
variable{n sz:Nat}{cs:List Value}
theorem Pm{p m c:Nat}(s:Own lo h sz (.slice (some ⟨p,0,none⟩) m c) n cs):h.get p=some (.cells cs true sz):=by
 cases s with
 |full h1 h2 h3=>exact h3
theorem Pn(s:Own lo h 1 v n cs):cs.length=n:=by
 cases s with
 |nil=>rfl
 |full h1 h2 h3 h4=>omega
theorem L8(s:Own lo h sz v n cs)(a:0<n):mL v=false:=by
 cases s with
 |nil=>omega
 |full=>rfl
structure QZ (T:Nat->Option aq):Prop where
 nd:BW T
 f201:T 57=some f201
variable{os:List (List Nat)}
theorem OK(F:QZ T)(hr:Rdy h)(hg:Tab h)(h2:0<h.next){q:Nat}(eg:0<q)(M:IsW w){B ov y:Value}(gq:h.get q=some (.cells (quL w B (.slice none 0 0) ov y) true 1))(so:SsQ h ov os)(e9:os.length<1000000)
 (cX:∀b o m c,ov= .slice (some ⟨b,o,none⟩) m c->b<q):
 Gs T 57 [.pointer (some ⟨q,0,none⟩)] h (λz=>q<=z) λ_ k=>(∀z,z<h.next->z≠q->k.get z=h.get z)/\∃A,k.get q=some (.cells (quL w B A ov y) true 1)/\NdS k A (os.map (dR w)):=by
 have hp:=F.nd.pl.fi.ft.li.p;refine .ofK hp F.f201 ?_;obtain⟨a,c,rfl⟩:=so.sl.form;have ba:=hr.wf.bP gq;have ko:=λA=>Ro M B A (.slice a os.length c) y;have kn:=λA=>Rn M B A (.slice a os.length c) y;have kw:=λA=>VP M B A (.slice a os.length c) y;have eK:=kM M;have U:=λA v=>Mq M B A (.slice a os.length c) y v;have dp:=λA=>Fc M B A (.slice a os.length c) y;have eI:=ko (.slice none 0 0);refine Y9 ?_
 refine cT (λm e ds k=>∃(i:Nat) (v:Value) (d:List Value),i<=os.length/\m=os.length-i/\e=[(0, .pointer (some ⟨q,0,none⟩)),(7, .slice a os.length c),(8, .int .i64 (os.length:Nat)),(9, .int .i64 (i:Nat))]/\ds=[]/\WF k∧h.next<=k.next/\eR q k.log/\(i=0->k=h)/\(0<i->q∈k.log)/\(∀z,z<h.next->z≠q->k.get z=h.get z)/\k.get q=some (.cells (quL w B v (.slice a os.length c) y) true 1)/\Own h.next k 1 v i d/\eC d=true/\∀j r,((os.take i).map (dR w))[j]? =some r->∃u,d[j]? =some u/\OwS h.next k u r)
  ⟨0, .slice none 0 0,[],md _,rfl,rfl,rfl,hr.wf,bl _,by rw[hr.log];exact eR.nil _,λ_=>rfl,λq=>absurd q (pp 0),λ_ _ _=>rfl,gq, .nil,rfl,λj r t=>(by rw[xp,List.map_nil,List.getElem?_nil]at t;cases t)⟩ ?_
 rintro m e ds G ⟨i,v,d,dT,rfl,rfl,rfl,WG,nG,lG,ci,cj,oG,O,I,bi,S⟩;have cf:G.get 0=h.get 0:=oG 0 h2 (by omega);by_cases hlt:i<os.length
 ·obtain⟨x,hx⟩:∃s,os[i]? =some s:=⟨os[i],bx hlt⟩;have L:=so.ok x (eA hx);obtain⟨b,o,c3,vs,f9,tt,hv,gl,bo,el⟩:=so.elem hx;cases hv;have cd:b≠q:=Nat.ne_of_lt (cX _ _ _ _ rfl);have dE:=(oG b bo cd).trans gl;have f0:=bR L.len;have f7:=cS L.len;have f8:=L.len;have dv:an .lss (.int .i64 (i:Nat)) (.int .i64 (os.length:Nat))=some (.bool true):=dY (by omega);refine Y9 ?_;refine cI (E0:=[(0, .pointer (some ⟨q,0,none⟩)),(3, .pointer (some ⟨G.next,0,none⟩)),(7, .slice (some ⟨b,o,none⟩) os.length c),(8, .int .i64 (os.length:Nat)),(9, .int .i64 (i:Nat))]) (P:=λk=>Ext G k∧k.next=G.next+1/\k.get G.next=some (.cells (us x) true 1)) ?_ ?_
  ·refine Y4 ?_;refine aG (dg (by exact rfl) (by exact rfl) YG (by(simp only[aK];assumption)) (by exact rfl) (by exact dQ _)) ?_;refine bH ?_;refine y1 ?_;exact⟨rfl,rfl,rfl,fK (by omega) _ _,rfl,YG⟩
  rintro Y ⟨V,n2,g2⟩;have Z:=V.wf WG;have ar:=(V.old _ (by omega)).trans O;have aw:Tab Y:=((V.old 0 (by omega)).trans cf).trans hg;have C:=OW F.nd (h:={Y with log:=[]}) (.of Z) (show Tab Y from aw) (by show 0<Y.next;omega) M L;obtain⟨E,H,rfl⟩:∃a c,v= .slice a i c:=(I.slice (by omega)).form;have eJ:=ko (.slice E i H);have eh:=kn (.slice E i H);have eQ:=kw (.slice E i H);refine Y12 ?_;refine FW.alD C (λv k m q=>q.log m) ?_;rintro u g N q5;clear C;have q5:OwS Y.next g u (dR w x):=q5
  have n5:=N.next
  have bj:=(N.old _ (by omega)).trans ar;have dC:=(N.old _ (by omega)).trans g2;refine⟨_,by(repeat apply aC rfl);apply ah rfl (af rfl (bJ (by exact rfl) (by assumption) (by assumption)) (by exact eH _ _ _)) rfl;apply ah rfl (af rfl (cN (by exact rfl)) (by exact aV _)) rfl;apply ah rfl (af rfl (iw (by exact rfl)) (by exact aV _)) rfl;apply ah rfl (af rfl (dD (by exact rfl)) (by exact aV _)) rfl;apply ah rfl (af rfl (dD (by exact rfl)) (by exact aV _)) rfl;exact aY,?_⟩;obtain⟨W,X,rfl⟩:=q5.form;refine BO rfl rfl rfl (by exact rfl) (by exact rfl) (by exact rfl) (iu (by exact rfl) (by exact rfl)) (by refine ff (af rfl (bJ (by exact rfl) YG (by assumption)) (by exact eH _ _ _)) ?_;refine ff (af rfl (cN (by exact rfl)) (by exact aV _)) ?_;refine ff (af rfl (iw (by exact rfl)) (by exact aV _)) ?_;refine ff (af rfl (dD (by exact rfl)) (by exact aV _)) ?_;refine ff (af rfl (dD (by exact rfl)) (by exact aV _)) ?_;exact Bz) ?_;have x6:Ext g (g.push (.cells [.slice W (dR w x).length X] true 1)):=(Ext.refl g).push _;have Q:∀l a c,(.slice E i H:Value)= .slice (some ⟨l,0,none⟩) a c->h.next<=l∧l<G.next:=λl a c e=>by rw[e]at I;exact EW I
  have n6:(g.push (.cells [.slice W (dR w x).length X] true 1)).next=g.next+1:=rfl
  refine Nn (lo:=q) (n:=i) (cs:=d) (c1:=[.slice W (dR w x).length X]) ((I.ext (V.trans (N.trans x6))).low (by omega)) (by omega) (by omega) (by omega) rfl rfl rfl (by exact rfl) (by exact rfl) (by exact rfl) (vE (jy (cs:=[.slice W (dR w x).length X]) (z3 g _) rfl rfl)) rfl rfl bi (by show eR q g.log;rw[N.log,V.log];exact lG) (x6.wf (N.wf Z)) ?_;intro J lg o7 n7 l7 W7 f;have n7:g.next+1<J.next:=n7
  have f:∀z,z<g.next->(∀l a c,(.slice E i H:Value)= .slice (some ⟨l,0,none⟩) a c->z≠l)->J.get z=g.get z:=λz D K=>(f z (by show z<g.next+1;omega) K).trans (z4 D)
  have o7:Own (g.next+1) J 1 (.slice (some ⟨g.next+1,0,none⟩) (i+1) UNK) (i+1) (d++[.slice W (dR w x).length X]):=o7;have ae:J.get q=some (.cells (quL w B (.slice E i H) (.slice (some ⟨b,o,none⟩) os.length c) y) true 1):=(f q (by omega) (λl a c e=>by have:=(Q l a c e).1;omega)).trans bj;refine⟨_,by(repeat apply aC rfl);apply ah rfl (af rfl (dD (by exact rfl)) (by exact aV _)) rfl;exact aY,?_⟩;have kc:(Nat.beq (cF (cellsOf (.slice (some ⟨g.next+1,0,none⟩) (i+1) UNK))) 1&&Nat.ble (0+17+1) (cF (quL w B (.slice E i H) (.slice (some ⟨b,o,none⟩) os.length c) y))&&eC (cellsOf (.slice (some ⟨g.next+1,0,none⟩) (i+1) UNK)))=true:=by
   rw[bX (quL w B (.slice E i H) (.slice (some ⟨b,o,none⟩) os.length c) y),dp (.slice E i H)];rfl
  have du:=U (.slice E i H) (.slice (some ⟨g.next+1,0,none⟩) (i+1) UNK) rfl;have be:q<J.next:=by omega
  refine Y2 ?_;refine iC rfl rfl rfl (by exact rfl) (by exact rfl) (by exact rfl) ae kc du be (by(repeat apply aC rfl);exact aY) ?_;refine Y8 ?_;refine⟨os.length-(i+1),by omega,i+1, .slice (some ⟨g.next+1,0,none⟩) (i+1) UNK,d++[.slice W (dR w x).length X],by omega,rfl,rfl,rfl,W7.as (AS.wr h.next _ _ _),(by show h.next<=J.next;omega),uB l7 (bl q),λe=>(by omega),λ_=>BQ ba,λz D K=> ?_,?_,?_,pV bi rfl,λj r t=> ?_⟩
  ·exact(z5 K).trans ((f z (by omega) (λl a c e=>by have:=(Q l a c e).1;omega)).trans ((N.old z (by omega)).trans ((V.old z (by omega)).trans (oG z D K))))
  ·rw[z6,ae];rfl
  ·exact(o7.keep (h':=J.wr h.next q (.cells (quL w B (.slice (some ⟨g.next+1,0,none⟩) (i+1) UNK) (.slice (some ⟨b,o,none⟩) os.length c) y) true 1)) (bl _) λz D _=>z5 (by omega)).low (by omega)
  ·have da:d.length=i:=by
    have:=I.slice (by omega);exact Pn I
   have aE:((os.take i).map (dR w)).length=i:=by rw[po,m6];omega
   rw[fU hx,tk]at t;rcases xG j i with hji|hji
   ·rw[hG (by omega)]at t;obtain⟨u',d9,qo⟩:=S j r t;refine⟨u',by rw[hG (by omega)];exact d9,qo.Rh (by show G.next<=J.next;omega) λz D=> ?_⟩;have dj:=qo.vb D;refine(z5 (by omega)).trans ((f z (by omega) (λl a c e=> ?_)).trans ((N.old z (by omega)).trans (V.old z (by omega))));rw[e]at I;exact qo.ne (Pm I) z D
   ·obtain rfl:j=i:=by
     have:=(List.getElem?_eq_some_iff.1 t).1;rw[ec,aE]at this;simp at this;omega
    rw[gK (by omega),aE,ul]at t;simp at t;subst t;refine⟨_,by rw[gK (by omega),da,ul];rfl,(q5.low (by omega)).Rh (by show g.next<=J.next;omega) λz D=> ?_⟩;have dj:=q5.vb D;exact(z5 (by omega)).trans ((f z (by omega) (λl a c e=>by have:=(Q l a c e).2;omega)))
 ·obtain rfl:i=os.length:=by omega
  have dv:an .lss (.int .i64 (os.length:Nat)) (.int .i64 (os.length:Nat))=some (.bool false):=eM (by omega);rw[q9]at S;have cP:0<os.length->mL v=false:=λq=>L8 I q;have cY:=I.slice (by omega);refine Y9 ?_;refine Ho (λz D=>lG z D) ?_ rfl ⟨oG,v,O,d,?_,λj r t=> ?_⟩
  ·rcases Nat.eq_zero_or_pos os.length with q0|q0
   ·exact .inl (ci q0)
   ·exact .inr ⟨q,ba,cj q0,_,_,_,O,DN (cP q0) (List.mem_append_right _ (by simp))⟩
  ·rw[po];exact cY
  ·obtain⟨u,hu,qu⟩:=S j r t;refine⟨u,hu,qu.ss λs hs=> ?_⟩;have cJ:=eA t;obtain⟨x,_,rfl⟩:=List.mem_map.1 cJ;exact Lv M hs
def pe(w:List Nat×List Nat)(l:List Pb)(os:List (List Nat)):Int:=
 if sIn w.1 w.2=false then 1 else if 6<os.length then 2 else if os.any (λs=>decide (s=s0))=true then 1 else prE l
structure QN (T:Nat->Option aq):Prop where
 ne:Jf T
 cp:FF T
 f141:T 56=some f141
theorem Om{e:Env}(u:IsW w){k l m n:Operand}{g i j:Value}(h1:ev h e k=some (wV w))(r:ev h e l=some g)(s:ev h e m=some i)(t:ev h e n=some j)(c2:cellsOf g=[g])(o:cellsOf i=[i])(p:cellsOf j=[j]):
 je h e [(.int .u64 0),(.int .u64 0),(.int .u64 0),(.int .u64 0),(.int .u64 0),(.int .u64 0),(.int .u64 0),(.int .u64 0),(.int .u64 0),(.int .u64 0),(.int .u64 0),(.int .u64 0),(.int .u64 0),(.int .u64 0),(.int .u64 0),(.int .u64 0),(.slice none 0 0),(.slice none 0 0),(.slice none 0 0),(.map none)] [(0,16,k),(16,1,l),(18,1,m),(19,1,n)]=some (quL w g (.slice none 0 0) i j):=by
 have f:=iY u;have q:cellsOf (wV w)=wL w:=by show(wL w).toArray.toList=_;simp
 have v:cF (wL w)=16:=by rw[bX,f]
 have y:cW [(.int .u64 0),(.int .u64 0),(.int .u64 0),(.int .u64 0),(.int .u64 0),(.int .u64 0),(.int .u64 0),(.int .u64 0),(.int .u64 0),(.int .u64 0),(.int .u64 0),(.int .u64 0),(.int .u64 0),(.int .u64 0),(.int .u64 0),(.int .u64 0),(.slice none 0 0),(.slice none 0 0),(.slice none 0 0),(.map none)] 0 (wL w)=wL w++[.slice none 0 0, .slice none 0 0, .slice none 0 0, .map none]:=by
  rw[eY (by rw[f];decide),f];rfl
 have z:cW (wL w++[.slice none 0 0, .slice none 0 0, .slice none 0 0, .map none]) 16 [g]=wL w++[g, .slice none 0 0, .slice none 0 0, .map none]:=by
  rw[eY (by rw[ec,f];simp),j3 (by omega),gk (by omega),GE,pA (by simp;omega),f];simp
 have A:cW (wL w++[g, .slice none 0 0, .slice none 0 0, .map none]) 18 [i]=wL w++[g, .slice none 0 0,i, .map none]:=by
  rw[eY (by rw[ec,f];simp),List.take_append,gk (by omega),GE,pA (by simp;omega),f];simp
 have B:cW (wL w++[g, .slice none 0 0,i, .map none]) 19 [j]=wL w++[g, .slice none 0 0,i,j]:=by
  rw[eY (by rw[ec,f];simp),List.take_append,gk (by omega),GE,pA (by simp;omega),f];simp
 have x:∀a b c d:Value,cF (wL w++[a,b,c,d])=20:=λa b c d=>by rw[bX,ec,f];rfl
 simp only[je,h1,r,s,t,q,c2,o,p,v,x,y,z,A,B];rfl
theorem Hf(l:List Value):cellsOf (.agg l.toArray)=l:=by show l.toArray.toList=_;simp
def Wt(h:Heap)(w:List Nat×List Nat)(pv ov:Value)(e:Int)(v:Value)(h':Heap):Prop:=
 (e≠0/\v= .tuple #[.pointer none, .int .i64 e])∨(e=0/\∃q m,v= .tuple #[.pointer (some ⟨q,0,none⟩), .int .i64 0]/\h.next<=m/\m<q/\q<h'.next/\h'.get q=some (.cells (quL w pv (.slice none 0 0) ov (.map (some m))) true 1)/\h'.get m=some (.map []))
theorem JG(F:QN T)(hr:Rdy h)(j:IsW w){x u:Value}{l:List Pb}(z:PbS h x l)(C:l.length<1000000)(y:SsQ h u os)(n:os.length<1000000):
 Al T 56 [wV w,x,u] h (Wt h w x u (pe w l os)):=by
 have o:=F.cp.p;refine .of o F.f141 hr ?_ ?_
 ·rintro v L E (q|⟨_,q,m,rfl,_⟩)
  ·exact .inl q
  ·cases E
 obtain⟨a,c,rfl⟩:=z.form;obtain⟨A,B,rfl⟩:=y.sl.form;have t:cellsOf (wV w)=wL w:=by show(wL w).toArray.toList=_;simp
 have k:Ext h (h.push (.cells (cellsOf (wV w)) true 1)):=(Ext.refl h).push _;have K:(h.push (.cells (cellsOf (wV w)) true 1)).get h.next=some (.cells (wL w) true 1):=by rw[t];exact z3 h _
 have M:(h.push (.cells (cellsOf (wV w)) true 1)).next=h.next+1:=rfl
 refine Y5 ?_;generalize(h.push (.cells (cellsOf (wV w)) true 1))=H at*;have W:=k.wf hr.wf;have f:=k.log.trans hr.log;have N:=oN j;have J:=kM j;have b:=TQ F.ne (h:={H with log:=[]}) (.of W) j;have d:=uJ o F.ne.nd.f196 F.ne.nd.f257 (h:={H with log:=[]}) (.of W) ((y.ext k).log []) n (g:=52) (cap:=[]) (λs=>decide (s=s0)) λs D=>F1 o F.cp.f90 (.of W) (y.ok s D);have i:=N8 F.cp (h:={H with log:=[]}) (.of W) ((z.ext k).log []) C;unfold pe;cases hin:sIn w.1 w.2 with
 |false=>
  rw[hin]at b;rw[if_pos rfl];refine Y4 ?_;refine FW.pu b ?_;refine Y9 ?_;exact dG f rfl (.inl ⟨by decide,rfl⟩)
 |true=>
 rw[hin]at b;rw[if_neg (by simp)];by_cases h6:6<os.length
 ·have G:an .gtr (.int .i64 (os.length:Nat)) (.int .i64 6)=some (.bool true):=fM (by omega);rw[if_pos h6];refine Y4 ?_;refine FW.pu b ?_;refine Y18 ?_;exact dG f rfl (.inl ⟨by decide,rfl⟩)
 have G:an .gtr (.int .i64 (os.length:Nat)) (.int .i64 6)=some (.bool false):=gZ (by omega);rw[if_neg h6];cases ha:os.any (λs=>decide (s=s0))with
 |true=>
  rw[ha]at d;rw[if_pos rfl];refine Y4 ?_;refine FW.pu b ?_;refine Y18 ?_;refine FW.pu d ?_;refine Y8 ?_;exact dG f rfl (.inl ⟨by decide,rfl⟩)
 |false=>
 rw[ha]at d;rw[if_neg (by simp)];by_cases he:prE l=0
 ·rw[he]at i⊢;have I:an .neq (.int .i64 0) (.int .i64 0)=some (.bool false):=rfl;refine Y4 ?_;refine FW.pu b ?_;refine Y18 ?_;refine FW.pu d ?_;refine Y8 ?_;refine FW.pu i ?_;clear b d i;refine Y13 ?_;refine aG vm ?_;refine aG (qn (Om j (by exact rfl) (by exact rfl) (by exact rfl) (by exact rfl) rfl rfl rfl)) ?_;have r:=Hf (quL w (.slice a l.length c) (.slice none 0 0) (.slice A os.length B) (.map (some H.next)));refine Y5 ?_;refine dG f rfl (.inr ⟨rfl,_,_,rfl,?_,go _,go _,?_,?_⟩)
  ·show h.next<=H.next;omega
  ·rw[r];exact z3 _ _
  ·exact(z4 (go _)).trans (z3 _ _)
 ·have I:an .neq (.int .i64 (prE l)) (.int .i64 0)=some (.bool true):=jc he;generalize prE l=e at*;refine Y4 ?_;refine FW.pu b ?_;refine Y18 ?_;refine FW.pu d ?_;refine Y8 ?_;refine FW.pu i ?_;refine Y14 ?_;exact dG f rfl (.inl ⟨he,rfl⟩)
end Go.A.Pk
end
