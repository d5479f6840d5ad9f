/- Walks of functions, plain laws, the table. -/
import Derived.Test.YtkaeljcfdnhacaaGreatDoorLU2
import Derived.Test.YtkaeljcfdnhacaaGreatDoorLU1
import Derived.Test.YtkaeljcfdnhacaaGreatDoorLF
import Derived.Shelf.SlSortCmp.NoneTotal
import Derived.Test.YtkaeljcfdnhacaaGreatDoorProg
import Derived.Test.YtkaeljcfdnhacaaGreatDoorLH
import Derived.KernelRfl
import Derived.Test.YtkaeljcfdnhacaaGreatDoorLD
set_option linter.all false
set_option maxHeartbeats 16000000
set_option maxRecDepth 100000
section
namespace Go.A.Pk
variable {T:Nat->Option an}
inductive OwE (lo:Nat) (h:Heap) (sz:Nat):Value->Nat->List Value->Prop
 |own {v n cs}:Own lo h sz v n cs->OwE lo h sz v n cs
 |lit {b}:lo<=b->b<h.next->h.get b=some (.cells [] true sz)->OwE lo h sz (.slice (some ⟨b,0,none⟩) 0 0) 0 []
theorem OwE.keep{lo sz n:Nat}{h h':Heap}{v:Value}{cs:List Value}(s:OwE lo h sz v n cs)(b:h.next<=h'.next)(a:∀z,lo<=z->z<h.next->h'.get z=h.get z):OwE lo h' sz v n cs:=by
 cases s with
 |own s=>exact .own (s.keep b a)
 |lit h1 h2 h3=>exact .lit h1 (by omega) ((a _ h1 h2).trans h3)
theorem OwE.ext{lo sz n:Nat}{h h':Heap}{v:Value}{cs:List Value}(s:OwE lo h sz v n cs)(x:Ext h h'):OwE lo h' sz v n cs:=s.keep x.next λz _ a=>x.old z a
section
variable {base:Nat} {rnd:Option Nat} {Q:XQ} {e:Env} {ds:Dfs} {h:Heap} {dst:Option Nat} {os:List aZ} {x y:Operand} {v u:Value} {lo sz n i:Nat} {cs:List Value} {k:IntKind}
theorem BD(a:ev h e x=some (.slice none 0 0))(b:ev h e y=some (.int k ((0:Nat):Int))):aop h base e (.slice (.sl sz) x (some y) none none)=some (.val (.slice none 0 0) h):=by
 simp only[aop,a,ia,qf b,qe];rfl
theorem Py(s:Own lo h sz v n cs)(hi:i<=n)(b:ev h e x=some v)(c:ev h e y=some (.int k (i:Nat)))
 (a:∀u,cN h sz u=some (cs.take (i*sz),i)->WO T base rnd Q os (cC e dst u) ds h):WO T base rnd Q (⟨dst, .slice (.sl sz) x none (some y) none,none⟩::os) e ds h:=by
 cases s with
 |nil=>
  obtain rfl:i=0:=by omega
  refine aF (FQ b (qf c)) (a _ ?_);simp[cN]
 |full h1 h2 h3 h4 h5=>
  refine aF (sU b c h3 hi (by omega)) (a _ ?_);exact gw h3 (by rw[aR,tb,bk]) (by rw[lp,h4,xr (K2 _ hi)])
theorem Pz(s:Own lo h sz v n cs)(hi:i<=n)(b:ev h e x=some v)(c:ev h e y=some (.int k (i:Nat)))
 (a:∀u h',cN h' sz u=some (cs.drop (i*sz),n-i)->Ext h h'→WO T base rnd Q os (cC e dst u) ds h'):WO T base rnd Q (⟨dst, .slice (.sl sz) x (some y) none none,none⟩::os) e ds h:=by
 cases s with
 |nil=>
  obtain rfl:i=0:=by omega
  refine aF (BD b c) (a _ _ ?_ (.refl h));simp[cN]
 |full h1 h2 h3 h4 h5=>
  rcases Id i n with hlt|hge
  ·refine aF (oQ b c h3 hlt) (a _ _ ?_ (.refl h));have d:(cs.drop (i*sz)).length=(n-i)*sz:=by rw[G7,h4,Nat.sub_mul]
   exact gw h3 (by rw[aR,j3,bk,dn (by omega)]) d
  ·obtain rfl:i=n:=by omega
   refine aF (DA b c h3 h5) (a _ _ ?_ ((Ext.refl h).push _));rw[wc (by omega),xx];exact gw (z3 h _) (by simp[bk]) (by simp)
variable{a:Nat}
theorem vL{b:Nat}(hb:h.get b=some (.cells [] true sz))(f:b<h.next)(j:lo<=b)(p:n<1000000)(g:a<=100000)(m:ev h e x=some (sh b 0 0))(o:ev h e y=some u)(l:cN h sz u=some (cs,n))(i:cs.length=n*sz)
 (k:∀v' h',OwE lo h' sz v' n cs->Ext h h'→WO T base rnd Q os (cC e dst v') ds h'):WO T base rnd Q (⟨dst, .append sz a x y,none⟩::os) e ds h:=by
 by_cases h0:n=0
 ·subst h0;obtain rfl:cs=[]:=List.length_eq_zero_iff.1 (by omega);exact aF (sQ m o l (bl _)) (k _ _ (.lit j f hb) (.refl h))
 ·have d:(2*(0+n)+768)*a<=281474976710656:=by
   have:(2*(0+n)+768)*a<=2000768*100000:=R0 (by omega) g;omega
  refine aF (sP (len:=0) (c:=0) (ws:=cs) m o l h0 (by omega) (by decide) hb (by simp) d (by simp[bk,dI])) ?_;refine k _ _ (.own ?_) ((Ext.refl h).push _);rw[j3];exact .full (by omega) (ec _) (z3 _ _) i h0
theorem Pw{c1:List Value}(s:OwE lo h sz v n cs)(q:n<1000000)(k:0<sz)(g:a<=100000)(f:lo<=h.next)(d:base<=lo)
 (o:ev h e x=some v)(p:ev h e y=some u)(m:cN h sz u=some (c1,1))(i:c1.length=sz)(h1:eG c1=true)
 (l:∀v' h',Own lo h' sz v' (n+1) (cs++c1)->Lx lo h h'→WO T base rnd Q os (cC e dst v') ds h'):WO T base rnd Q (⟨dst, .append sz a x y,none⟩::os) e ds h:=by
 cases s with
 |own s=>exact uZ s q k g f d o p m i h1 l
 | @lit b q1 q2 q3=>
   have j:(2*(0+1)+768)*a<=281474976710656:=by
    have:(2*(0+1)+768)*a<=770*100000:=R0 (by omega) g;omega
   refine aF (sP (len:=0) (c:=0) (n:=1) (ws:=c1) o p m (by omega) (by omega) (by decide) q3 (by simp) j (by simp[bk,dI])) ?_;refine l _ _ ?_ ((Lx.refl lo h).push f _);exact .full f (ec _) (z3 _ _) (by simp[i]) (by omega)
theorem SH{m:Nat}{c2:List Value}(s:Own lo h sz v n cs)(p:n≠0)(r:n+m<1000000)(i:0<sz)(f:a<=100000)(b:lo<=h.next)(c:base<=lo)
 (l:ev h e x=some v)(o:ev h e y=some u)(k:cN h sz u=some (c2,m))(g:c2.length=m*sz)(h1:eG c2=true)
 (j:∀v' h',Own lo h' sz v' (n+m) (cs++c2)->Lx lo h h'→WO T base rnd Q os (cC e dst v') ds h'):WO T base rnd Q (⟨dst, .append sz a x y,none⟩::os) e ds h:=by
 have d:(2*(n+m)+768)*a<=281474976710656:=by
  have:(2*(n+m)+768)*a<=2000768*100000:=R0 (by omega) f;omega
 cases s with
 |nil=>exact absurd rfl p
 | @full q _ _ q1 q2 q3 q4 q5=>
   by_cases hm:m=0
   ·subst hm;obtain rfl:c2=[]:=List.length_eq_zero_iff.1 (by omega);refine aF (sQ l o k (by unfold UNK;omega)) (j _ _ ?_ (.refl lo h));rw[md];exact .full q1 q2 q3 q4 q5
   ·refine aF (mF (n:=m) (vs:=cs) (ws:=cs++c2) l o k hm q3 q4 i h1 d (dI _ _)) ?_;refine j _ _ ?_ (((Lx.refl lo h).wr q1 (by omega)).push b _);exact .full b (ec _) (z3 _ _) (by rw[eA,q4,g,Do]) (by omega)
end
end Go.A.Pk
end
section
namespace Go.A.Pk
variable {T:Nat->Option an}
theorem Px{base:Nat}{rnd:Option Nat}{Q:XQ}{e:Env}{k:Dfs}{h:Heap}{lo sz a n:Nat}{dst:Option Nat}{os:List aZ}{x y:Operand}{v u:Value}{cs c1:List Value}(s:Own lo h sz v n cs)(A:n<1000000)(j:0<sz)(hb:a<=100000)
 (r:ev h e x=some v)(t:ev h e y=some u)(p:cN h sz u=some (c1,1))(g:c1.length=sz)(h1:eG c1=true)
 (l:∀h',Own h.next h' sz (sh h.next (n+1) UNK) (n+1) (cs++c1)->h'.next=h.next+1->(∀z∈h'.log,lo<=z∨z∈h.log)->(WF h->WF h')->(∀z,z<h.next->(∀m c,v≠ sh z m c)->h'.get z=h.get z)->WO T base rnd Q os (cC e dst (sh h.next (n+1) UNK)) k h'):
 WO T base rnd Q (⟨dst, .append sz a x y,none⟩::os) e k h:=by
 have f:(2*(n+1)+768)*a<=281474976710656:=by
  have:(2*(n+1)+768)*a<=2000768*100000:=R0 (by omega) hb;omega
 cases s with
 |nil=>
  refine aF (vh (n:=1) r t p (by omega) (by simpa using f) rfl) ?_;exact l _ (Own.full (lo:=h.next) (h:=h.push (.cells c1 true sz)) (sz:=sz) (q:=h.next) (n:=1) (cs:=c1) (bl _) (ec _) (z3 _ _) (by omega) (by omega)) rfl (λz d=> .inr d) (λw=>w.push _) (λz d _=>z4 d)
 | @full q _ _ q1 q2 q3 q4 q5=>
   refine aF (mF (n:=1) (vs:=cs) (ws:=cs++c1) r t p (by omega) q3 q4 j h1 f (dI _ _)) ?_;exact l _ (.full (bl _) (ec _) (z3 _ _) (by rw[eA,q4,g,Do,Nat.one_mul]) (by omega)) rfl (λz d=>by
    rcases fk (b:=q) (o:= .dead) d with rfl|d
    ·exact .inl q1
    ·exact .inr d) (λw=>(w.as (AS.wr base _ q .dead)).push _) (λz d i=>(z4 (by exact d)).trans (z5 (λe=>i n UNK (by subst e;rfl))))
section
open I
def AA:aT:=I.R [g 8 (.new (aI 8 (.int .u64 0))),S 8 8 16] [6,8]
def AD:aT:= .block 1 (I.R [L 17 6,N 18 8 8,g 19 (.dz (aI 8 (.int .u64 0)) 1 [(0,8,(t 18))]),g 20 (.append 8 64 (t 17) (t 19)),S 1 6 20] [])
end
variable{lo:Nat}{v:Value}
theorem E3(hp:aM T){H:Heap}(hr:Rdy H){q l lo2:Nat}{P:Value}{ss:List (List Nat)}{f:Fi}(g:IsS f.s)(hm:ss.length<1000000)(E:lo<=q)
 (gl:H.get l=some (.loop [(6, sb q),(14,P)] [15,16] AA AD 0 .normal))
 (k:H.get q=some (qt [v]))(own:Own lo2 H 8 v ss.length (ssL ss))(t:lo<=lo2)(ae:q<lo2)(a8:l<lo2)(a7:lo2<=H.next):
 FW T (.yield l) (fiV f) H λr b=>r= .ret (.bool true)/\(∀z∈b.log,lo<=z)/\q∈b.log/\∃p,b.get q=some (qt [sh p (ss.length+1) UNK])/\H.next<=p/\Own lo2 b 8 (sh p (ss.length+1) UNK) (ss++[f.s]).length (ssL (ss++[f.s]))/\(∀z,z<H.next->z≠q->(∀m c,v≠ sh z m c)->b.get z=H.get z)/\WF b∧H.next<=b.next/\p<b.next:=by
 have y:q≠l:=λe=>by subst e;rw[k]at gl;cases gl
 have Q:=hr.wf.dS k;have kl:=hr.wf.dS gl;have G:∀m c,v≠ sh l m c:=λm c e=>by
  rw[e]at own;generalize hn:ss.length=n at own;generalize ssL ss=cs at own;cases own with
  |full B=>omega
 have I:∀m c,v≠ sh q m c:=λm c e=>by
  rw[e]at own;generalize hn:ss.length=n at own;generalize ssL ss=cs at own;cases own with
  |full B=>omega
 refine FW.VX hp (q:=q) (R:=λb=>∃p,b.get q=some (qt [sh p (ss.length+1) UNK])/\H.next<=p/\Own lo2 b 8 (sh p (ss.length+1) UNK) (ss++[f.s]).length (ssL (ss++[f.s]))/\(∀z,z<H.next->z≠q->(∀m c,v≠ sh z m c)->b.get z=H.get z)/\WF b∧H.next<=b.next/\p<b.next) gl rfl kl Q y ?_;have k8:=aL g.len;have k9:=aV g.len;have am:=g.len;unfold AA;refine Y2 ?_;refine aF (bB (by rfl) (by rfl) YG (by(simp only[aB];assumption)) (by rfl) (by exact bX _)) ?_;refine bH ?_;refine y1 ?_;refine⟨rfl,YG,?_⟩;unfold AD;refine mW ?_;refine WE.BU ?_;intro a d;have A:∀z,z<H.next->z≠l->H.get z=a.get z:=λz i u=>by rw[d];symm;simp(disch:=first|omega|(simp only[z1,z2];omega))only[z5,z4]
 have M:a.get H.next=some (qt (us f.s)):=by rw[d];(simp(disch:=first|omega|(simp only[z1,z2];omega))only[z3,z4,z5,z6,z7,z1,z2,gl,k];done)
 have L:a.get l=some (.loop [(6, sb q),(14,P)] [15,16] AA AD 1 .normal):=by rw[d];(simp(disch:=first|omega|(simp only[z1,z2];omega))only[z3,z4,z5,z6,z7,z1,z2,gl,k,M];exact rfl)
 have A5:a.next=H.next+1:=by rw[d];rfl
 have U:a.log=[]:=by rw[d];simp(disch:=first|omega|(simp only[z1,z2];omega))only[Heap.au,Heap.yZ];exact hr.log
 have V:WF a:=by rw[d];exact(((hr.wf.push _).as (AS.wr _ _ _ _)).as (AS.wr _ _ _ _))
 clear d;have N:=(A q Q y).symm.trans k;have F:ssL [f.s]=us f.s:=by simp[ssL]
 have x:Own lo2 a 8 v ss.length (ssL ss):=own.keep (by omega) λz i J=>(A z J (by omega)).symm;clear k;refine Y3 ?_;refine aF (mG (BP g (by rfl)) (show bM (aI 8 (Value.int IntKind.u64 0))=8 from rfl)) ?_;refine Px (lo:=lo2) (c1:=us f.s) (x.ext ((Ext.refl a).push _)) hm (by omega) (by omega) (by rfl) (by rfl) (gw (cs:=us f.s) YG k9 (by rw[aB,g.len])) (by rw[aB,g.len]) (bX _) ?_;intro j h S K w3 w;have h:Own (H.next+2) j 8 (sh (H.next+2) (ss.length+1) UNK) (ss.length+1) (ssL ss++us f.s):=by
  have e:(a.push (.cells (us f.s) true 8)).next=H.next+2:=by show a.next+1=_;omega
  rw[←e];exact h
 have S:j.next=H.next+3:=by rw[S];show a.next+1+1=_;omega
 have K:∀z∈j.log,lo2<=z:=λz i=>(K z i).elim id λe=>by
  have e:z∈a.log:=e;rw[U]at e;cases e
 have w:∀z,z<H.next+1->(∀m c,v≠ sh z m c)->j.get z=a.get z:=λz i u=>(w z (by show z<a.next+1;omega) u).trans (z4 (by omega))
 have X:WF j:=w3 (V.push _);have Y:∀o,(a.push o).next=H.next+2:=λo=>by show a.next+1=_;omega
 rw[Y];have O:=(w q (by omega) I).trans N;have W:=(w l (by omega) G).trans L;have C:ssL (ss++[f.s])=ssL ss++us f.s:=by rw[pN,F]
 have D:(ss++[f.s]).length=ss.length+1:=by simp
 clear N M L;refine yS ?_;refine bH ?_;refine Y2 ?_;refine⟨rfl,⟨_,YG,rfl⟩,λz i=> ?_,tO (by omega),⟨_,_,_,Heap.aP O,rfl⟩,H.next+2,(z5 y).trans (Heap.aP O),by omega,?_,λz i B Z=> ?_,?_,?_,?_⟩
 ·rcases fk i with rfl|i
  ·exact E
  ·exact ed t (K z i)
 ·rw[C,D];exact Own.low (lo:=H.next+2) (Own.keep h (bl _) λz i _=>(z5 (by omega)).trans (z5 (by omega))) (by omega)
 ·by_cases hl:z=l
  ·subst hl;rw[gl];exact Heap.aP ((z5 (Ne.symm y)).trans W)
  ·exact(z5 hl).trans ((z5 B).trans ((w z (by omega) Z).trans (A z (by omega) hl).symm))
 ·exact(X.as (AS.wr _ _ _ _)).as (AS.wr _ _ _ _)
 ·show H.next<=j.next
  omega
 ·show H.next+2<j.next
  omega
theorem wS{a b:List Nat}{f:Fi}(h:f∈jm a b):IsS f.s/\∃t x y z,f.s=lY (dM b t) (bY (dM b t)).1 x y z:=by
 unfold jm at h;split at h
 ·cases h
 ·obtain⟨t,_,h⟩:=List.mem_flatMap.1 h;unfold qn Ja yc vq wJ at h;obtain⟨z,_,h⟩:=List.mem_flatMap.1 h;obtain⟨y,_,h⟩:=List.mem_flatMap.1 h;obtain⟨x,_,h⟩:=List.mem_flatMap.1 h;split at h
  ·rw[List.mem_singleton.1 h];exact⟨oq (mV b t) _ _ _ _,t,x,y,z,rfl⟩
  ·cases h
structure PPl (l q:Nat) (H0:Heap) (L:bR) (done:List Fi) (H:Heap):Prop where
 old:∀z,z<l->z≠q->H.get z=H0.get z
 loop:H.get l=some L
 nx:l<H.next
 val:∃v,H.get q=some (qt [v])/\Own (l+1) H 8 v (done.map (·.s)).length (ssL (done.map (·.s)))
 few:done.length<=100000
def wPl(q:Nat)(H:Heap)(z:Nat):Prop:=z=q∨∃m c,H.get q=some (qt [sh z m c])
theorem PPl.gu{l q:Nat}{d:Heap}{L:bR}(n:q<l)(done:List Fi)(H a:Heap)(p:PPl l q d L done H)(e:H.next<=a.next)(h:∀x,x<H.next->a.get x=H.get x):PPl l q d L done a:=by
 obtain⟨f,g,i,⟨v,j,k⟩,m⟩:=p;exact⟨λz c b=>(h z (by omega)).trans (f z c b),(h l i).trans g,by omega,⟨v,(h q (by omega)).trans j,k.keep e λz _ c=>h z c⟩,m⟩
variable{h:Heap}
theorem Cm{sz n:Nat}{p m c:Nat}{cs:List Value}(s:Own lo h sz (sh p m c) n cs):lo<=p/\p<h.next:=by
 cases s with
 |full h1 h2=>exact⟨h1,h2⟩
theorem HX(j:T 95=some (.mb (qZ 126 96))){k:Nat}(r:k=126∨k=96){l:List (List Nat)}(s:OwS lo h v l)(f:∀x∈l,IsS x)(u:l.length<1000000):
 Gs T 95 [v, .func (.func k) #[] #[]] h (vB v) (λ_ h'=>OwS lo h' v (fB l)):=by
 have a:=kV l;have i:Jc 126 96 (.func (.func k) #[] #[])=true:=by
  rcases r with rfl|rfl<;>rfl
 rcases s with⟨rfl,rfl⟩|⟨b,c,tl,h1,h2,h3,rfl,h4,h5⟩
 ·have e:fB []=[]:=List.length_eq_zero_iff.1 a;rw[e];refine⟨.ret (.tuple #[]),h,⟨1,λn y=> ?_⟩,⟨bl _,λz d=> .inl d,λ_ _ _=>rfl,id⟩, .tuple #[],rfl, .inl ⟨rfl,rfl⟩⟩;obtain⟨A,rfl⟩:∃k,n=k+1:=⟨n-1,by omega⟩;simp only[iS,j,qZ,i,cond_true]
 ·have m:(Jc 126 96 (.func (.func k) #[] #[])&&(Nat.beq 0 0&&Nat.blt l.length 1000000))=true:=by rw[i,gJ u];rfl
  have o:=Fs (t:=tl) f;have p:bK (l.length*8) (ssL l++tl)=tl:=by rw[aR,←fH f,List.drop_left]
  refine⟨.ret (.tuple #[]),h.wr h.next b (.cells (ssL (fB l)++tl) true 8),⟨1,λn y=> ?_⟩,?_, .tuple #[],rfl, .inr ⟨b,c,tl,h1,h2,?_,by rw[a],by omega,λq=>h5 λB=>q (by rw[B];exact List.length_eq_zero_iff.1 (kV []))⟩⟩
  ·obtain⟨A,rfl⟩:∃k,n=k+1:=⟨n-1,by omega⟩;simp only[iS,j,qZ,h3,m,cond_true,o,p]
  ·refine⟨bl _,λz d=> ?_,λz d g=> ?_,λw=>w.as (AS.wr h.next _ _ _)⟩
   ·rcases fk d with rfl|d
    ·exact .inr ⟨_,_,rfl⟩
    ·exact .inl d
   ·exact z5 (λe=>g (by rw[e];exact⟨_,_,rfl⟩))
  ·show(h.wr h.next b (.cells (ssL (fB l)++tl) true 8)).get b=_;rw[z6,h3];rfl
structure KK (T:Nat->Option an):Prop where
 fi:Tb T
 f72:T 94=some f72
 f167:T 125=some f167
 f189:T 95=some (.mb (qZ 126 96))
 f192:T 98=some f192
theorem J9(F:KK T)(hr:Rdy h)(u:h.next≥lo){l:List (List Nat)}(s:OwS lo h v l)(a:∀x∈l,IsS x)(k:l.length<1000000):
 Gs T 125 [v, .func (.func 126) #[] #[]] h (vB v) (λv c=>OwS lo c v (ddS (fB l))):=by
 have n:=F.fi.ft.li.p;refine .of n F.f167 (λv G H A w t y=>OwS.flat A y) ?_;have g:=HX F.f189 (.inl rfl) (h:={h with log:=[]}) (s.log []) a k;refine Y7 ?_;refine FW.gs g (λv c m q=>q.log m) ?_;rintro _ j o C;clear g;have b:∀x∈fB l,IsS x:=λx B=>a x (ir.1 B);have i:=xP n F.f192 (h:={j with log:=[]}) (.of (o.wf hr.wf)) (C.log []) b (by rw[kV];exact k);refine Y4 ?_;refine FW.gs i (λv c m q=>q.log m) ?_;rintro I r E D;clear i;have e:∀z∈j.log,vB v z:=λz d=>(o.log z d).elim (λq=>by rw[hr.log]at q;cases q) id;have f:∀z∈r.log,vB v z:=λz d=>(E.log z d).elim (λq=>e z q) id;refine Y3 ?_;exact nX f rfl D
def lU(a b:List Nat):List (List Nat):=if b=s0 then []else ddS (fB ((jm a b).map (·.s)))
variable{s:List Nat}
theorem pH{a b:List Nat}(h:s∈lU a b):IsS s:=by
 unfold lU at h;split at h
 ·cases h
 ·obtain⟨f,c,rfl⟩:=List.mem_map.1 (ir.1 (oW h));exact(wS c).1
theorem SZ(lo:Int)(n:Nat):(zrN lo n).length=n:=by unfold zrN;simp
theorem uw{α β:Type}{f:α->List β}{k:Nat}:∀{l:List α},(∀x∈l,(f x).length<=k)->(l.flatMap f).length<=l.length*k
 |[],_=>by simp
 |x::l,h=>by
  have h1:=h x bx;have b:=uw λy a=>h y (bu x a);rw[List.flatMap_cons,eA,me,Do];omega
theorem AP(a b:List Nat):(jm a b).length<=98304:=by
 have c:∀{lo hi:Int}, -7<=lo->hi<=7->(zr lo hi).length<=16:=λ{lo hi} w A=>by
  unfold zr;rw[SZ];omega
 have l:=iA a;unfold jm;split
 ·simp
 ·refine ed (uw (k:=4096) λt _=> ?_) (by simp);have g:=iA (dM b t);obtain⟨⟨⟨B,C⟩,⟨D,E⟩,⟨F,G⟩⟩,⟨⟨H,I⟩,⟨J,h⟩,⟨i,j⟩⟩⟩:=l;obtain⟨⟨⟨m,n⟩,⟨o,p⟩,⟨q,r⟩⟩,⟨⟨s,u⟩,⟨v,d⟩,⟨e,f⟩⟩⟩:=g;unfold qn Ja;refine ed (uw (k:=256) λz _=> ?_) (by have:=c (lo:=(bY a).1.lo.z-(bY (dM b t)).1.lo.z) (hi:=(bY a).1.hi.z-(bY (dM b t)).1.hi.z) (by omega) (by omega);omega);unfold yc;refine ed (uw (k:=16) λy _=> ?_) (by have:=c (lo:=(bY a).1.lo.y-(bY (dM b t)).1.lo.y) (hi:=(bY a).1.hi.y-(bY (dM b t)).1.hi.y) (by omega) (by omega);omega);unfold vq;refine ed (uw (k:=1) λx _=> ?_) (by have:=c (lo:=(bY a).1.lo.x-(bY (dM b t)).1.lo.x) (hi:=(bY a).1.hi.x-(bY (dM b t)).1.hi.x) (by omega) (by omega);omega);unfold wJ;split<;>simp
theorem uM(a b:List Nat):(lU a b).length<=98304:=by
 unfold lU;split
 ·simp
 ·refine ed (BL _) ?_;rw[kV,hS];exact AP a b
def RC(b:List Nat):Int:=if b=s0 then 1 else 0
theorem N9(F:KK T)(hr:Rdy h)(hg:Tab h)(h2:0<h.next){a b:List Nat}(K:IsS a)(hb:IsS b):
 Al T 94 [sv a,sv b] h λv J=>∃u,v= .tuple #[u, zc (RC b)]/\OwS h.next J u (lU a b):=by
 have hp:=F.fi.ft.li.p;refine .of hp F.f72 hr ?_ ?_
 ·rintro v Q hv ⟨u,rfl,q⟩;have hu:cO u=true:=by
   have e:cO (.tuple #[u, zc (RC b)])=iY [u, zc (RC b)]:=rfl;rw[e]at hv;simp only[iY,cond_eq_ite,Bool.if_false_right,dk]at hv;have V:flat u=true:=of_decide_eq_true hv.1;unfold cO;split
   ·rename_i cs;rcases q with⟨Q,_⟩|⟨_,_,_,_,_,_,Q,_⟩<;>cases Q
   ·exact V
  exact⟨u,rfl,OwS.flat hu q⟩
 have ba:=aL K.len;have be:=aV K.len;have bj:=aL hb.len;have bo:=aV hb.len;have x0:Ext h ((h.push (qt (cellsOf (sv a)))).push (qt (cellsOf (sv b)))):=((Ext.refl h).push _).push _;have gA:((h.push (qt (cellsOf (sv a)))).push (qt (cellsOf (sv b)))).get h.next=some (qt (us a)):=YG
 have gB:((h.push (qt (cellsOf (sv a)))).push (qt (cellsOf (sv b)))).get (h.next+1)=some (qt (us b)):=YG;have n0:((h.push (qt (cellsOf (sv a)))).push (qt (cellsOf (sv b)))).next=h.next+2:=rfl
 refine Y6 ?_;generalize((h.push (qt (cellsOf (sv a)))).push (qt (cellsOf (sv b))))=H at*;have W:=x0.wf hr.wf;have hL:=x0.log.trans hr.log;have aE:=AP a b;unfold lU RC;by_cases he:b=s0
 ·rw[if_pos he,if_pos he];refine Y4 ?_;refine aF (jy (b:=s0) (by rfl) (by rfl) hb.len rfl) ?_;rw[decide_eq_true he];refine Y8 ?_;exact dN hL rfl ⟨_,rfl, .inl ⟨rfl,rfl⟩⟩
 rw[if_neg he,if_neg he];refine Y4 ?_;refine aF (jy (b:=s0) (by rfl) (by rfl) hb.len rfl) ?_;rw[decide_eq_false he];have x1:Ext H (H.push (qt [.slice none 0 0])):=(Ext.refl H).push _;have q6:(H.push (qt [.slice none 0 0])).get H.next=some (qt [.slice none 0 0]):=z3 _ _
 have n1:(H.push (qt [.slice none 0 0])).next=H.next+1:=rfl
 refine Y7 ?_;generalize(H.push (qt [.slice none 0 0]))=H1 at*;have j:=x0.trans x1;have W1:=j.wf hr.wf;have aw:=j.log.trans hr.log;have M:=(x1.old _ (by omega)).trans gA;have O:=(x1.old _ (by omega)).trans gB;have C:=Qx F.fi (h:={H1 with log:=[]}) (.of W1) K hb;clear gA gB;refine Y5 ?_;refine FW.al C (λv J m q=>q) ?_;rintro _ i x2 ⟨y,A,rfl,ga,gb,ae,am,na,nb⟩;clear C;have na:H1.next<=y:=na
 have nb:H1.next<=A:=nb
 have k:=j.trans x2;have W2:=k.wf hr.wf;have U:=k.log.trans hr.log;have n2:=x2.next
 have L:=(x2.old _ (by omega)).trans q6;have X:Tab i:=hg.ext k h2;clear M O q6;refine Y2 ?_;refine Kr (lo:=H.next) (P:=PPl i.next H.next i (.loop [(6, sb H.next),(14,fnF y A)] [15,16] AA AD 0 .normal) (jm a b)) rfl (by rfl) (by rw[F.fi.ft.f209];rfl) (by omega) (by omega) U W2 ?_ (λH p=>⟨_,_,_,_,p.loop⟩) ?_
 ·have Y:IW T H.next (i.next+1) i.next H.next fiV (jm a b) (PPl i.next H.next i (.loop [(6, sb H.next),(14,fnF y A)] [15,16] AA AD 0 .normal)) (wPl H.next):=by
   refine⟨by omega,λdone f Hh hx o a8 hN n=> ?_,PPl.gu (by omega),λdone B ar p Z hs z g=> ?_,λdone B z p g=> ?_⟩
   ·obtain⟨I,w,p3,⟨v,r,t⟩,L⟩:=n;refine FW.mono' (E3 hp a8 (lo:=H.next) (lo2:=i.next+1) (ss:=done.map (·.s)) (wS hx).1 (by rw[hS];omega) (bl _) w r t (by omega) (by omega) (by omega) hN) ?_;rintro r' B ⟨r1,r2,r3,p,r4,r5,r6,r7,r8,r9,cd⟩;have G:∀z,z<i.next+1->∀m c,v≠ sh z m c:=λz g m c e=>by
     rw[e]at t;have:=(Cm t).1;omega
    refine⟨r1,r2,r3,⟨_,_,_,r4,rfl⟩,⟨λz g E=>(r7 z (by omega) E (G z (by omega))).trans (I z g E),(r7 _ (by omega) (by omega) (G _ (by omega))).trans w,by omega,⟨_,r4,by rw[wx];exact r6⟩,by rw[eA];show done.length+1<=_;omega⟩,λz g Z=>r7 z g (λe=>Z (.inl e)) λm c e=>Z (.inr ⟨m,c,by rw[←e];exact r⟩),λz g=> ?_⟩;rcases g with rfl|⟨m,c,g⟩
    ·exact .inl (.inl rfl)
    ·rw[r4]at g;cases g;exact .inr r5
   ·obtain⟨I,w,p3,⟨v,r,t⟩,L⟩:=p;rcases g with rfl|⟨m,c,g⟩
    ·exact .inl rfl
    ·exact .inr ⟨m,c,by rw[←hs _ (by omega)];exact g⟩
   ·obtain⟨I,w,p3,⟨v,r,t⟩,L⟩:=p;rcases g with rfl|⟨m,c,g⟩
    ·omega
    ·rw[r]at g;cases g;exact(Cm t).2
  exact L8 F.fi.ft (.of (W2.push (.loop [(6, sb H.next),(14,fnF y A)] [15,16] AA AD 0 .normal))) (qa:=y) (qb:=A) (l:=i.next) (N:=i.next+1) (lo:=H.next) K hb (bl _) (by show H.next<=i.next+1;omega) (by omega) Y (λd B n=>(n.old _ ae (by omega)).trans ga) (λd B n=>(n.old _ am (by omega)).trans gb) (λd B n=>(n.old 0 (by omega) (by omega)).trans X)
   ⟨λz g _=>z4 (by omega),z3 _ _,ec _,⟨_,(z4 (by omega)).trans L, .nil⟩,gK _⟩
 intro h4 S k1 k2 k3 k4 k5 k6 n;obtain⟨I,w,p3,⟨v,r,t⟩,p7⟩:=n;have D:=(k5 H.next (by omega)).trans r;have ow:=t.keep (h':=S) (by omega) λz g _=>k5 z (by omega);have a7:∀x∈(jm a b).map (·.s),IsS x:=λx hx=>by
  obtain⟨f,V,rfl⟩:=List.mem_map.1 hx;exact(wS V).1
 have o:((jm a b).map (·.s)).length<1000000:=by rw[hS];omega
 generalize(jm a b).map (·.s)=l at*;have os:=Pk.Own.owS ow (by omega);have C:=J9 F (h:={S with log:=[]}) (.of k2) (lo:=i.next+1) (by show i.next+1<=S.next;omega) (os.log []) a7 o;clear r I w;refine Y5 ?_;refine FW.gs0 C (λv J m q=>q.log m) (λz g=>by have:=(os.vb g).1;omega) ?_;rintro v6 H6 n6 l6 o6 w6 s6;clear C;refine Y4 ?_;exact dN (l6.trans k1) rfl ⟨_,rfl,s6.low (by omega)⟩
structure Ds (T:Nat->Option an):Prop where
 pl:KK T
 f35:T 49=some f35
 f92:T 58=some f92
 f121:T 87=some f121
 f124:T 51=some f124
 f193:T 99=some f193
 f194:T 100=some f194
 f195:T 101=some f195
 f196:T 102=some f196
 f197:T 103=some f197
 f257:T 130=some f257
def ni(r:List (List Nat))(x:List Nat):Bool:=r.any λy=> !decide (y=x)&&sIn y x
def nj(w:List Nat×List Nat)(o:List Nat):List (List Nat):=ddS (fB ((lU w.2 o).map λp=>eU p w.1))
def dZ(w:List Nat×List Nat)(o:List Nat):List (List Nat):=(nj w o).filter λx=> !ni (nj w o) x
variable{w:List Nat×List Nat}{o:List Nat}
theorem uI(c:IsW w)(h:s∈nj w o):IsS s:=by
 obtain⟨p,b,rfl⟩:=List.mem_map.1 (ir.1 (oW h));exact(pH b).less c.a
theorem vA(w:List Nat×List Nat)(o:List Nat):(nj w o).length<=98304:=by
 refine ed (BL _) ?_;rw[kV,hS];exact uM _ _
variable{x:List Nat}
theorem NY(F:Ds T)(hr:Rdy h){q:Nat}{y:List Nat}(a:IsS x)(c:IsS y)(g:h.get q=some (qt (us x))):Pu T 103 [sv y, sb q] h (.bool (!decide (y=x)&&sIn y x)):=by
 have f:=F.pl.fi.ft.li.p;refine .of f F.f197 hr rfl ?_;have i:=hr.wf.dS g;have j:=aL a.len;have k:=aV a.len;have l:=aL c.len;have m:=aV c.len;have d:Ext h (h.push (qt (cellsOf (sv y)))):=(Ext.refl h).push _;have n:(h.push (qt (cellsOf (sv y)))).get h.next=some (qt (us y)):=YG
 have r:(h.push (qt (cellsOf (sv y)))).next=h.next+1:=rfl
 refine Y4 ?_;generalize(h.push (qt (cellsOf (sv y))))=H at*;have W:=d.wf hr.wf;have e:=d.log.trans hr.log;have o:=(d.old _ i).trans g;have C:=Gb f F.f35 F.f121 (h:={H with log:=[]}) (.of W) c a;by_cases he:y=x
 ·rw[decide_eq_true he];refine Y3 ?_;refine aF (jy (b:=x) (by rfl) (by rfl) c.len a.len) ?_;rw[decide_eq_true he];refine Y8 ?_;exact ah e rfl rfl
 ·rw[decide_eq_false he];refine Y3 ?_;refine aF (jy (b:=x) (by rfl) (by rfl) c.len a.len) ?_;rw[decide_eq_false he];refine Y7 ?_;refine FW.pu C ?_;clear C;refine Y4 ?_;exact ah e rfl rfl
theorem Q7(F:Ds T)(hr:Rdy h){q:Nat}{r:List (List Nat)}(s:SsQ h v r)(i:r.length<1000000)(j:IsS x)(g:h.get q=some (qt [v])):Pu T 101 [sv x, sb q] h (.bool (ni r x)):=by
 have d:=F.pl.fi.ft.li.p;refine .of d F.f195 hr rfl ?_;have l:=hr.wf.dS g;have b:Ext h (h.push (qt (cellsOf (sv x)))):=(Ext.refl h).push _;have e:(h.push (qt (cellsOf (sv x)))).get h.next=some (qt (us x)):=YG
 have n:(h.push (qt (cellsOf (sv x)))).next=h.next+1:=rfl
 refine Y4 ?_;generalize(h.push (qt (cellsOf (sv x))))=H at*;have W:=b.wf hr.wf;have f:=b.log.trans hr.log;have m:=(b.old _ l).trans g;obtain⟨a,c,rfl⟩:=s.sl.form;have C:=vU d F.f196 F.f257 (h:={H with log:=[]}) (.of W) ((s.ext b).log []) i (g:=103) (cap:=[sb h.next]) (λy=> !decide (y=x)&&sIn y x) λy k=>NY F (h:={H with log:=[]}) (.of W) j (s.ok y k) e;unfold ni;refine Y4 ?_;refine FW.pu C ?_;clear C;refine Y3 ?_;exact ah f rfl rfl
theorem Ap{l:List (List Nat)}{i:Nat}(f:List Nat->List Nat)(hi:l[i]? =some x):((l.take i).map f++l.drop i).set i (f x)=(l.take (i+1)).map f++l.drop (i+1):=by
 obtain⟨a,c⟩:=List.getElem?_eq_some_iff.1 hi;have b:((l.take i).map f).length=i:=by rw[hS,lp];omega
 rw[wi a,List.set_append_right _ _ (Nat.le_of_eq b),b,xx,List.set_cons_zero,eD hi,wx,yn];rfl
theorem EF{l:List (List Nat)}{i:Nat}(f:List Nat->List Nat)(hi:l[i]? =some x):((l.take i).map f++l.drop i)[i]? =some x:=by
 have a:=(List.getElem?_eq_some_iff.1 hi).1;rw[gR (by simp;omega),kK,hS,lp,xr (by omega),xx,Sx,hi]
theorem OwS.wr{base p:Nat}{l:List (List Nat)}{ob:bR}(q:OwS lo h v l)(a:∀z,vB v z->z≠p):OwS lo (h.wr base p ob) v l:=by
 rcases q with q|⟨b,c,t,h1,h2,h3,rfl,h4⟩
 ·exact .inl q
 ·exact .inr ⟨b,c,t,h1,h2,(z5 (a b ⟨_,_,rfl⟩)).trans h3,rfl,h4⟩
variable{vs:List Value}
theorem OwS.ne{p:Nat}{l:List (List Nat)}{own:Bool}(q:OwS lo h v l)(g:h.get p=some (.cells vs own 1)):∀z,vB v z->z≠p:=by
 rintro z ⟨m,c,a⟩ rfl;rcases q with⟨rfl,_⟩|⟨b,c',t,h1,h2,h3,rfl,h4⟩
 ·cases a
 ·cases a;rw[g]at h3;cases h3
theorem Ra(F:Ds T)(hr:Rdy h)(hg:Tab h)(h2:0<h.next)(n:IsW w)(ho:IsS o):Al T 58 [wV w,sv o] h λv h'=>OwS h.next h' v (dZ w o):=by
 have D:=F.pl.fi.ft.li.p;refine .of D F.f92 hr (λv h1 hv q=>OwS.flat hv q) ?_;have cX:cellsOf (wV w)=wL w:=by show(wL w).toArray.toList=_;simp
 have g0:((h.push (qt (cellsOf (wV w)))).push (qt (cellsOf (sv o)))).get h.next=some (qt (wL w)):=by rw[cX];exact(z4 (ec _)).trans (z3 h _)
 have g1:((h.push (qt (cellsOf (wV w)))).push (qt (cellsOf (sv o)))).get (h.next+1)=some (qt (us o)):=z3 _ _;have n0:((h.push (qt (cellsOf (wV w)))).push (qt (cellsOf (sv o)))).next=h.next+2:=rfl
 have x0:Ext h ((h.push (qt (cellsOf (wV w)))).push (qt (cellsOf (sv o)))):=((Ext.refl h).push _).push _;refine Y5 ?_;generalize((h.push (qt (cellsOf (wV w)))).push (qt (cellsOf (sv o))))=H at*;have W:=x0.wf hr.wf;have hL:=x0.log.trans hr.log;have wk:=jR n;have dv:=ic n;have wa:=Dg n;have wb:=Dh n;have dq:=aL n.a.len;have du:=aL n.b.len;have k8:=aL ho.len;have k9:=aV ho.len;have C1:=N9 F.pl (h:={H with log:=[]}) (.of W) (show Tab H from hg.ext x0 h2) (by show 0<H.next;omega) n.b ho;have j:∀x∈lU w.2 o,IsS x:=λx A=>pH A;have cj:=uM w.2 o;have hA:nj w o=ddS (fB ((lU w.2 o).map λp=>eU p w.1)):=rfl;have d9:=vA w o;have s:∀x∈nj w o,IsS x:=λx A=>uI n A;unfold dZ;generalize nj w o=r at*;generalize lU w.2 o=l at*;refine Y5 ?_;refine FW.al C1 (λv h' m q=>q) ?_;rintro _ d x1 ⟨u,rfl,Q⟩;have Q:OwS H.next d u l:=Q
 clear C1;have bj:=x0.trans x1;have n1:=x1.next
 have X:=(x1.old _ (by omega)).trans g0;have x2:=dX (h:=d) (base:=h.next) (by omega) (qt [.slice none 0 0]) (qt [u]);have g5:=fU (h:=d) (base:=h.next) [.slice none 0 0] [u];have n2:((d.push (qt [.slice none 0 0])).wr h.next d.next (qt [u])).next=d.next+1:=rfl
 obtain⟨a,c,rfl⟩:=Q.form;clear g0 g1;refine Y7 ?_;refine WE.BU ?_;intro S a8;have e2:S=((d.push (qt [.slice none 0 0])).wr h.next d.next (qt [.slice a l.length c])):=a8;rw[←e2]at x2 g5 n2;clear a8 e2;have V:=bj.trans x2;have W2:=V.wf hr.wf;have am:=V.log.trans hr.log;have Y:=(x2.old _ (by omega)).trans X;have q2:=Q.ext x2;refine dw (E0:=[(2, sb h.next),(5, sb d.next),(16, zc (l.length:Nat)),(17, zc (l.length:Nat)),(18, .bool false)]) (P:=λh'=>WF h'∧h'.log=[]/\S.next<=h'.next/\(∀z,z<H.next->h'.get z=S.get z)/\h'.get d.next=some (qt [.slice a l.length c])/\OwS H.next h' (.slice a l.length c) (l.map λp=>eU p w.1)) ?_ ?_
 ·rcases q2 with⟨hv,rfl⟩|⟨b,c',tl,hb1,hb2,hb3,hv,hcl,hcu⟩
  ·cases hv;refine Y6 ?_;refine bg (λmm e ds h'=>0=mm/\e=[(2, sb h.next),(5, sb d.next),(16, zc 0),(17, zc 0)]/\ds=[]/\S=h') ⟨rfl,rfl,rfl,rfl⟩ ?_;rintro mm e ds _ ⟨rfl,rfl,rfl,rfl⟩;refine Y9 ?_;exact⟨rfl,rfl,rfl,W2,am,bl _,λ_ _=>rfl,g5, .inl ⟨rfl,rfl⟩⟩
  ·cases hv;have da:b<d.next:=(Q.vb ⟨_,_,rfl⟩).2
   refine Y6 ?_
   refine bg (λmm e ds h'=>∃i:Nat,i<=l.length/\l.length-i=mm/\e=[(2, sb h.next),(5, sb d.next),(16, zc (l.length:Nat)),(17, zc (i:Nat))]/\ds=[]/\WF h'∧h'.log=[]/\S.next=h'.next/\(∀z,z≠b->h'.get z=S.get z)/\h'.get b=some (.cells (ssL ((l.take i).map (λp=>eU p w.1)++l.drop i)++tl) true 8))
    ⟨0,gK _,rfl,rfl,rfl,W2,am,rfl,λ_ _=>rfl,hb3⟩ ?_
   rintro mm e ds H3 ⟨i,hi,rfl,rfl,rfl,w3,l3,n3,U,gb⟩;have B:=(U d.next (by omega)).trans g5;have bo:=(U h.next (by omega)).trans Y;by_cases hlt:i<l.length
   ·obtain⟨x,A⟩:∃x,l[i]? =some x:=⟨l[i],a6 hlt⟩;have N:=j x (bz A);have f:∀y∈(l.take i).map (λp=>eU p w.1)++l.drop i,IsS y:=λy O=>by
     rcases List.mem_append.1 O with O|O
     ·obtain⟨p,D,rfl⟩:=List.mem_map.1 O;exact(j p (wy D)).less n.a
     ·exact j y (List.mem_of_mem_drop O)
    have dj:((l.take i).map (λp=>eU p w.1)++l.drop i).length=l.length:=by
     rw[eA,hS,lp,G7];omega
    have rx:=pO (t:=tl) f (EF _ A);have ba:=Ap (λp=>eU p w.1) A;have aw:=N.less n.a;have C:=QO D F.f124 (h:={H3 with log:=[]}) (.of w3) N n.a;have kc:=CZ (t:=tl) f aw (i:=i) (by omega);have kw:dy (ssL ((l.take i).map (λp=>eU p w.1)++l.drop i)++tl) (0+i*8) (cellsOf (sv (eU x w.1)))=ssL ((l.take (i+1)).map (λp=>eU p w.1)++l.drop (i+1))++tl:=by
     have e:cellsOf (sv (eU x w.1))=us (eU x w.1):=by show(us (eU x w.1)).toArray.toList=_;simp
     rw[e,CX f aw (by omega),ba]
    have kx:=aL N.len;have cY:zd i l.length true:=cH (by omega);generalize eU x w.1=lx at*;generalize(l.take i).map (λp=>eU p w.1)++l.drop i=m at*;obtain rfl:=hcu (λq=>by rw[q]at hlt;simp at hlt);refine Y23 ?_;refine FW.puD C (by(repeat apply aC rfl);apply aG rfl (aq rfl (dx (by rfl)) (by exact dD _ _)) rfl;apply aG rfl (aq rfl (dV (by rfl) (by assumption) (by rfl)) (by exact dG _ _ _)) rfl;exact aQ) ?_;clear C;refine qI ?_;refine iO rfl rfl rfl (by rfl) (by rfl) (by rfl) gb kc kw (by omega) (by(repeat apply aC rfl);exact aQ) ?_;refine Y8 ?_;exact⟨l.length-(i+1),by omega,i+1,by omega,rfl,rfl,rfl,w3.as (AS.wr h.next _ _ _),(Heap.au (by omega)).trans l3,n3,λz k=>(z5 k).trans (U z k),by rw[z6,gb];rfl⟩
   ·obtain rfl:i=l.length:=by omega
    have cY:zd l.length l.length false:=cS (by omega);rw[hP,Sp,md]at gb;refine Y9 ?_;refine⟨rfl,rfl,rfl,w3,l3,by omega,λz k=>U z (by omega),B, .inr ⟨b,c,tl,hb1,by omega,gb,by rw[hS],by rw[hS];exact hcl,λq=>hcu λq2=>q (by rw[q2];rfl)⟩⟩
 have be:∀z,vB (.slice a l.length c) z->H.next<=z/\z<d.next:=λz k=>Q.vb k
 rintro H3 ⟨w3,l3,n3,U,B,q3⟩;clear q2 Q g5 X;have bo:=(U _ (by omega)).trans Y;have f:∀y∈l.map (λp=>eU p w.1),IsS y:=λy O=>by
  obtain⟨p,D,rfl⟩:=List.mem_map.1 O;exact(j p D).less n.a
 have db:(l.map λp=>eU p w.1).length=l.length:=hS _;generalize hll:l.map (λp=>eU p w.1)=lm at*;have I:lm.length<1000000:=by omega
 have C2:=HX F.pl.f189 (.inr rfl) (h:={H3 with log:=[]}) (q3.log []) f I;refine Y3 ?_;refine FW.gs0 C2 (λv h' m q=>q.log m) (λz k=>by have:=(q3.vb k).1;omega) ?_;rintro v4 H4 n4 l4 o4 w4 q4;clear C2;have W4:=w4 w3;have Z:=(o4 d.next (by omega) (λq=>by have:=(be _ q).2;omega)).trans B;have aE:∀x∈fB lm,IsS x:=λx A=>f x (ir.1 A);have C3:=xP D F.pl.f192 (h:={H4 with log:=[]}) (.of W4) (q4.log []) aE (by rw[kV];exact I);rw[←hA]at C3;refine Y4 ?_;refine FW.gs0 C3 (λv h' m q=>q.log m) (λz k=>by have:=(q4.vb k).1;omega) ?_;rintro v5 K n5 l5 o5 w5 q5;clear C3;have W5:=w5 W4;have cd:=l5.trans (l4.trans l3);have L:=(o5 d.next (by omega) (λq=>by have:=(be _ q).2;omega)).trans Z;have d8:=q5.ne L;obtain⟨E,G,rfl⟩:=q5.form;have dp:d.next<K.next:=by omega
 have q6:=q5.wr (base:=h.next) (ob:= qt [.slice E r.length G]) d8;have a7:(K.wr h.next d.next (qt [.slice E r.length G])).get d.next=some (qt [.slice E r.length G]):=by rw[z6,L];rfl
 have W6:WF (K.wr h.next d.next (qt [.slice E r.length G])):=W5.as (AS.wr h.next _ _ _);have ar:(K.wr h.next d.next (qt [.slice E r.length G])).log=[]:=(Heap.au (by omega)).trans cd;have n6:(K.wr h.next d.next (qt [.slice E r.length G])).next=K.next:=rfl
 clear q5 q4 q3 Z B;refine Y2 ?_;clear L;refine WE.BU ?_;intro H6 ae;have e6:H6=K.wr h.next d.next (qt [.slice E r.length G]):=ae
 rw[←e6]at q6 a7 W6 ar n6;clear ae e6;have M:r.length<1000000:=by omega
 have C4:=Lz D F.f194 (h:={H6 with log:=[]}) (.of W6) ((q6.ss s).log []) M;refine Y3 ?_;refine FW.al C4 (λv h' m q=>q.log m) ?_;rintro v7 H7 x7 q7;have q7:OwS H6.next H7 v7 r:=q7
 clear C4;have W7:=x7.wf W6;have cf:=x7.log.trans ar;have n7:=x7.next
 have C5:=I7 D F.f193 F.f257 (h:={H7 with log:=[]}) (.of W7) (lo:=H6.next) (q7.log []) s M (g:=101) (cap:=[sb d.next]) (ni r) λh' w cJ J x A=>
  Q7 F (h:={h' with log:=[]}) (.of w) (q:=d.next) (v:= .slice E r.length G) ((OwS.ss (q6.keep (h':=h') (by have:H7.next<=h'.next:=cJ;omega) λz _ k=>(J z k).trans (x7.old z k)) s).log []) M A ((J _ (by omega)).trans ((x7.old _ (by omega)).trans a7))
 refine Y2 ?_;refine FW.gs0 C5 (λv h' m q=>q.log m) (λz k=>by have:=(q7.vb k).1;omega) ?_;rintro v8 H8 n8 l8 o8 w8 q8;clear C5;refine Y3 ?_;exact dN (l8.trans cf) rfl (q8.low (by omega))
def pX(w:List Nat×List Nat):Bool:=decide (64<((gX w.2:Nat):Int)-((gX w.1:Nat):Int))
theorem LG(s:List Nat):gX s<=512:=iW s 512
structure KH (T:Nat->Option an):Prop where
 nd:Ds T
 f22:T 18=some f22
 f89:T 54=some f89
 f90:T 55=some f90
 f91:T 57=some f91
theorem VV(F:KH T)(hr:Rdy h)(c:IsW w):Pu T 54 [wV w] h (.bool (sIn w.1 w.2)):=by
 have e:=F.nd.pl.fi.ft.li.p;refine .of e F.f89 hr rfl ?_;have d:cellsOf (wV w)=wL w:=by show(wL w).toArray.toList=_;simp
 have j:(h.push (qt (cellsOf (wV w)))).get h.next=some (qt (wL w)):=by rw[d];exact z3 h _
 have W:WF (h.push (qt (cellsOf (wV w)))):=hr.wf.push _;have f:(h.push (qt (cellsOf (wV w)))).log=[]:=hr.log;refine Y4 ?_;generalize(h.push (qt (cellsOf (wV w))))=H at*;have C:=Gb e F.nd.f35 F.nd.f121 (h:={H with log:=[]}) (.of W) c.a c.b;have k:=Dg c;have l:=Dh c;have g:=aL c.a.len;have i:=aL c.b.len;refine Y6 ?_;refine FW.pu C ?_;refine Y3 ?_;exact ah f rfl rfl
theorem Up(F:KH T)(hr:Rdy h)(c:IsW w):Pu T 57 [wV w] h (.bool (pX w)):=by
 have j:=F.nd.pl.fi.ft.li.p;refine .of j F.f91 hr rfl ?_;have e:cellsOf (wV w)=wL w:=by show(wL w).toArray.toList=_;simp
 have o:(h.push (qt (cellsOf (wV w)))).get h.next=some (qt (wL w)):=by rw[e];exact z3 h _
 have W:WF (h.push (qt (cellsOf (wV w)))):=hr.wf.push _;have i:(h.push (qt (cellsOf (wV w)))).log=[]:=hr.log;refine Y4 ?_;generalize(h.push (qt (cellsOf (wV w))))=H at*;have f:=uo F.nd.pl.fi.ft.co (h:={H with log:=[]}) (.of W) c.b;have g:=uo F.nd.pl.fi.ft.co (h:={H with log:=[]}) (.of W) c.a;have t:=Dg c;have u:=Dh c;have k:=aL c.a.len;have l:=aL c.b.len;have m:=LG w.1;have n:=LG w.2;have r:vd ((gX w.2:Nat):Int) ((gX w.1:Nat):Int) (((gX w.2:Nat):Int)-((gX w.1:Nat):Int)):=kg (aU (by omega) (by omega));have s:af .gtr (zc (((gX w.2:Nat):Int)-((gX w.1:Nat):Int))) (zc 64)=some (.bool (pX w)):=by
  unfold pX;by_cases q:64<((gX w.2:Nat):Int)-((gX w.1:Nat):Int)
  ·rw[decide_eq_true q];exact dY q
  ·rw[decide_eq_false q];exact fu (by omega)
 generalize((gX w.2:Nat):Int)-((gX w.1:Nat):Int)=d at*;refine Y7 ?_;refine FW.puD f (by apply aG rfl (aq rfl (bV (by rfl) (by assumption) (by assumption) (by assumption)) (by exact rK _)) rfl;apply aG rfl (aq rfl (ez (by rfl)) (by exact di _)) rfl;(repeat apply aC rfl);exact aQ) ?_;clear f;skip;refine qC ?_;refine FW.puD g (by(repeat apply aC rfl);exact aQ) ?_;clear g;refine Y7 ?_;exact ah i rfl rfl
structure Pb where
 cells:List Nat
 cost:Int
def pbL(p:Pb):List Value:=us p.cells++[zc p.cost]
def pbV(p:Pb):Value:= .agg (pbL p).toArray
def Cn(l:List Pb):List Value:=l.flatMap pbL
variable{p:Pb}
theorem kT(h:IsS p.cells):(pbL p).length=9:=by simp[pbL,aB,h.len]
theorem EY(h:IsS p.cells):bN (pbL p) (0+8)=some (zc p.cost):=by
 rw[bW];show(us p.cells++[Value.int .i64 p.cost])[8]? =_;rw[gR (by rw[aB,h.len];omega),aB,h.len];rfl
theorem se(h:IsS p.cells):bO 8 (bK (0+0) (pbL p))=us p.cells:=by
 rw[bk,aR];show(us p.cells++[Value.int .i64 p.cost]).take 8=_;rw[hX (by rw[aB,h.len];omega),dn (by rw[aB,h.len];omega)]
theorem zn(h:IsS p.cells):Nat.beq (bM (pbL p)) 9=true:=by rw[cA,kT h];rfl
theorem EZ(p:Pb):eG (pbL p)=true:=mR (bX _) rfl
theorem N7:∀{l:List Pb} {i:Nat} {p:Pb},(∀p∈l,IsS p.cells)->l[i]? =some p->((Cn l).drop (i*9)).take 9=pbL p
 |[],i,p,_,h=>by simp at h
 |q::l,0,p,hl,h=>by
  simp at h;subst h;have e:Cn (q::l)=pbL q++Cn l:=rfl;have:=kT (hl q bx);rw[e,J0,tb,hX (by omega),dn (by omega)]
 |q::l,i+1,p,hl,h=>by
  have e:Cn (q::l)=pbL q++Cn l:=rfl;have b:=kT (hl q bx);have a:(pbL q++Cn l).drop 9=Cn l:=by rw[←b];exact List.drop_left
  rw[e,show(i+1)*9=9+i*9 by omega,←List.drop_drop,a];exact N7 (λs c=>hl s (bu _ c)) (by simpa using h)
structure TK (vs:List Value) (o:Nat) (p:Pb):Prop where
 all:bO 9 (bK o vs)=pbL p
 cells:bO 8 (bK (o+0) vs)=us p.cells
 cost:bN vs (o+8)=some (zc p.cost)
theorem TK.mk'{o:Nat}(a:IsS p.cells)(h:(vs.drop o).take 9=pbL p):TK vs o p:=by
 refine⟨by rw[bk,aR];exact h,?_,?_⟩
 ·have:=se a;rw[←this,bk,aR,bk,aR,←h,WP,x8,Xs];rfl
 ·have:=EY a;rw[←this,bW,bW,←h,gS (by omega),kK,j3]
structure PbS (h:Heap) (v:Value) (l:List Pb):Prop where
 sl:aK h 9 v l.length (Cn l)
 ok:∀p∈l,IsS p.cells
theorem PbS.elem{l:List Pb}(s:PbS h v l){i:Nat}(hi:l[i]? =some p):
 ∃b o c d a t,v= .slice (some ⟨b,o,none⟩) l.length c/\h.get b=some (.cells d a t)/\b<h.next/\TK d (o+i*9) p:=by
 have g:=(List.getElem?_eq_some_iff.1 hi).1;rcases aK.inv s.sl with⟨_,_,h0,_⟩|⟨b,o,cap,hv,s1,hc⟩
 ·omega
 ·obtain⟨d,a,t,e,f⟩:=s1.obj;refine⟨b,o,cap,d,a,t,hv,e,s1.lt, .mk' (s.ok p (bz hi)) ?_⟩;rw[←N7 s.ok hi,←f];simp only[bk,aR,WP,Xs,x8];congr 1;omega
theorem PbS.form{h:Heap}{v:Value}{l:List Pb}(s:PbS h v l):∃a c,v= .slice a l.length c:=s.sl.form
theorem PbS.ext{h h':Heap}{v:Value}{l:List Pb}(s:PbS h v l)(x:Ext h h'):PbS h' v l:=⟨s.sl.ext x,s.ok⟩
theorem PbS.log{h:Heap}{v:Value}{l:List Pb}(s:PbS h v l)(m:List Nat):PbS {h with log:=m} v l:=⟨s.sl.log m,s.ok⟩
def kj(p:Pb):Bool:=decide (p.cells=s0)|| !inR p.cost 1 1000
def prE(l:List Pb):Int:=if 8<l.length then 2 else if l.any kj then 1 else 0
def yx(P:Pb->Bool):List Pb->Nat->Int
 |[],_=> -1
 |r::l,i=>if P r then(i:Int)else yx P l (i+1)
theorem Jh(P:Pb->Bool){l:List Pb}{i:Nat}{r:Pb}(hi:l[i]? =some r):yx P (l.drop i) i=if P r then(i:Int)else yx P (l.drop (i+1)) (i+1):=by
 obtain⟨a,rfl⟩:=List.getElem?_eq_some_iff.1 hi;rw[wi a,yx]
theorem Mq(P:Pb->Bool)(l:List Pb):yx P (l.drop l.length) l.length= -1:=by
 rw[Sp];rfl
theorem El(P:Pb->Bool):∀(l:List Pb) (i:Nat),decide (0<=yx P l i)=l.any P
 |[],_=>rfl
 |r::l,i=>by
  rw[yx,List.any_cons];by_cases h:P r=true
  ·rw[if_pos h,h,So];exact decide_eq_true (by omega)
  ·rw[if_neg h,El P l (i+1)];have:P r=false:=by simpa using h
   rw[this,If]
structure Ho (T:Nat->Option an):Prop where
 p:aM T
 f62:T 104=some f62
 f90:T 55=some f90
 f106:T 34=some f106
 f155:T 131=some f155
 f156:T 132=some f156
 f231:T 154=some f231
theorem TP(F:Ho T)(hr:Rdy h)(a:IsS p.cells):Pu T 132 [pbV p] h (.bool (kj p)):=by
 refine .of F.p F.f156 hr rfl ?_;have b:cellsOf (pbV p)=pbL p:=by show(pbL p).toArray.toList=_;simp
 have e:Ext h (h.push (qt (cellsOf (pbV p)))):=(Ext.refl h).push _;have g:(h.push (qt (cellsOf (pbV p)))).get h.next=some (qt (pbL p)):=by rw[b];exact z3 h _
 refine Y4 ?_;generalize(h.push (qt (cellsOf (pbV p))))=H at*;have W:=e.wf hr.wf;have d:=e.log.trans hr.log;have i:=se a;have j:=aL a.len;have k:=EY a;have c:=HL F.p F.f90 (h:={H with log:=[]}) (.of W) a;have f:=Mt F.p F.f106 (h:={H with log:=[]}) (.of W) p.cost 1 1000;unfold kj;generalize decide (p.cells=s0)=b1 at*;generalize inR p.cost 1 1000=b2 at*;cases b1 with
 |true=>
  refine Y4 ?_;refine FW.pu c ?_;refine Y9 ?_;exact ah d rfl rfl
 |false=>
  refine Y4 ?_;refine FW.pu c ?_;refine Y7 ?_;refine FW.pu f ?_;refine Y6 ?_;exact ah d rfl rfl
theorem Mz(F:Ho T)(hr:Rdy h){l:List Pb}(s:PbS h v l)(C:l.length<1000000){g:Nat}{cap:List Value}(P:Pb->Bool)
 (n:∀r∈l,Pu T g (pbV r::cap) h (.bool (P r))):Pu T 154 [v, .func (.func g) #[] cap.toArray] h (zc (yx P l 0)):=by
 refine .of F.p F.f231 hr rfl ?_;obtain⟨a,c,rfl⟩:=s.form;refine Y10 ?_
 refine bg (λm e ds u=>∃i:Nat,i<=l.length/\m=l.length-i/\e=[(0, .slice a l.length c),(1, .func (.func g) #[] cap.toArray),(7, zc (l.length:Nat)),(8, zc (i:Nat))]/\ds=[]/\h=u∧yx P l 0=yx P (l.drop i) i)
  ⟨0,gK _,rfl,rfl,rfl,rfl,rfl⟩ ?_
 rintro m e ds _ ⟨i,w,rfl,rfl,rfl,rfl,d⟩;by_cases hlt:i<l.length
 ·obtain⟨r,f⟩:∃r,l[i]? =some r:=⟨l[i],a6 hlt⟩;have j:=bz f;obtain⟨b,o,z,G,y,t,x,A,B,q⟩:=s.elem f;cases x;have D:=q.all;have E:=zn (s.ok r j);have H:=n r j;have k:zd i l.length true:=cH (by omega);rw[Jh P f]at d;refine Y19 ?_;refine pQ (sS (all:=pbV r::cap) (by rfl) (by rfl) (by rfl) (by rw[dI,dI];simp[pbV])) ?_;refine FW.pu (by rw[hr.self];exact H) ?_;clear H n;cases hpr:P r with
  |true=>
   rw[hpr,if_pos rfl]at d;rw[d];refine Y12 ?_;exact ah hr.log rfl rfl
  |false=>
   rw[hpr,if_neg (by simp)]at d;refine Y9 ?_;exact⟨l.length-(i+1),by omega,i+1,by omega,rfl,rfl,rfl,rfl,d⟩
 ·obtain rfl:i=l.length:=by omega
  have k:zd l.length l.length false:=cS (by omega);rw[Mq]at d;rw[d];refine Y14 ?_;exact ah hr.log rfl rfl
theorem Qj(F:Ho T)(hr:Rdy h){l:List Pb}(s:PbS h v l)(f:l.length<1000000):Pu T 104 [v] h (zc (prE l)):=by
 refine .of F.p F.f62 hr rfl ?_;obtain⟨a,c,rfl⟩:=s.form;have b:=hr.log;unfold prE;by_cases h8:8<l.length
 ·have e:zs l.length 8 true:=dY (by omega);rw[if_pos h8];refine Y15 ?_;exact ah b rfl rfl
 rw[if_neg h8];have e:zs l.length 8 false:=fu (by omega);have C:Pu T 131 [.slice a l.length c, .func (.func 132) #[] #[]] {h with log:=[]} (.bool (l.any kj)):=by
  refine .of F.p F.f155 (.of hr.wf) rfl ?_;have C:=Mz F (h:={h with log:=[]}) (.of hr.wf) (s.log []) f (g:=132) (cap:=[]) kj λr d=>TP F (.of hr.wf) (s.ok r d);rw[←El kj l 0];generalize yx kj l 0=z at C⊢;refine Y7 ?_;refine FW.pu C ?_;clear C;have e:af .geq (zc z) (zc 0)=some (.bool (decide (0<=z))):=y6;refine Y4 ?_;exact ah rfl rfl rfl
 cases hb:l.any kj with
 |true=>
  rw[hb]at C;rw[if_pos rfl];refine Y16 ?_;refine FW.pu C ?_;refine Y7 ?_;exact ah b rfl rfl
 |false=>
  rw[hb]at C;rw[if_neg (by simp)];refine Y16 ?_;refine FW.pu C ?_;refine Y8 ?_;exact ah b rfl rfl
def fL(f:List Nat):List Value:=f.map λk=> .int .u8 (k:Nat)
def fV(f:List Nat):Value:= .agg (fL f).toArray
theorem fO(f:List Nat):(fL f).length=f.length:=by simp[fL]
theorem ur:∀f:List Nat,eG (fL f)=true
 |[]=>rfl
 |_::f=>ur f
variable{f:List Nat}
theorem BO{i k:Nat}(h:f[i]? =some k):bN (fL f) (0+i*1)=some (.int .u8 (k:Nat)):=by
 rw[bW,j3,xf];simp[fL,h]
theorem mJ(h:f.length=8):bO 8 (bK 0 (fL f))=fL f:=by
 rw[bk,aR,tb,dn (by rw[fO];omega)]
theorem j5(h:f.length=8):Nat.beq (bM (fL f)) 8=true:=by rw[cA,fO,h];rfl
theorem TG(f:List Nat):jb (.agg (fL f).toArray) (.agg (fL f).toArray)=true:=by
 refine jQ ?_;rw[HR];induction f with
 |nil=>rfl
 |cons p f ih=>exact cu (eW _ _) ih
theorem Bn(w:List Nat×List Nat):jb (.agg (wL w).toArray) (.agg (wL w).toArray)=true:=by
 refine jQ ?_;rw[HR];refine OS _ _ ?_;have:=OS w.2 [] rI
 rwa [md]at this
def quL(w:List Nat×List Nat)(pv nv ov mv:Value):List Value:=wL w++[pv,nv,ov,mv]
theorem GP(a:IsW w)(e c d b:Value):(quL w e c d b).length=20:=by
 unfold quL;rw[eA,jj a];rfl
theorem Ye(a:IsW w)(e c d b:Value):bO 16 (bK (0+0) (quL w e c d b))=wL w:=by
 have:=jj a;unfold quL;rw[bk,aR,j3,tb,hX (by omega),dn (by omega)]
theorem Yc(a:IsW w)(f c d b:Value):bO 8 (bK (0+0+0) (quL w f c d b))=us w.1:=by
 have h:=jj a;have e:=Dg a;rw[bk,aR,j3,tb]at e;unfold quL;rw[bk,aR,j3,tb,hX (by omega)];exact e
theorem Yd(a:IsW w)(f c d b:Value):bO 8 (bK (0+0+8) (quL w f c d b))=us w.2:=by
 have h:=jj a;have e:=Dh a;rw[bk,aR,j3]at e;unfold quL;rw[bk,aR,j3,FX (by omega),hX (by rw[G7];omega)];exact e
theorem GO(e:IsW w)(d b c a:Value)(i:Nat):bN (quL w d b c a) (16+i)=[d,b,c,a][i]? :=by
 have h:=jj e;unfold quL;rw[bW,gR (by omega),h,BT]
theorem E8(e:IsW w)(a c d b:Value):bN (quL w a c d b) (0+16)=some a:=GO e a c d b 0
theorem TD(e:IsW w)(d a c b:Value):bN (quL w d a c b) (0+17)=some a:=GO e d a c b 1
theorem TE(e:IsW w)(d c a b:Value):bN (quL w d c a b) (0+18)=some a:=GO e d c a b 2
abbrev Zs:=List (Pb×Nat)
def alB(z:Zs)(s:List Nat):Bool:=z.all λx=> !(decide (x.2=2)&&sIn x.1.cells s)
def bsJ(s:List Nat)(x:Pb×Nat):List Nat:=if x.2=1 then gM s x.1.cells else s
def bsS(s:List Nat)(z:Zs):List Nat:=z.foldl bsJ s
def bsB(w:List Nat×List Nat)(z:Zs):Bool:=sIn (bsS w.1 z) w.2&&alB z (bsS w.1 z)
theorem nF:∀{z:Zs} {s:List Nat},IsS s->(∀x∈z,IsS x.1.cells)->IsS (bsS s z)
 |[],s,hs,_=>hs
 |x::z,s,hs,h=>by
  have hx:=h x bx;refine nF (z:=z) (s:=bsJ s x) ?_ λy a=>h y (bu _ a);unfold bsJ;split
  ·exact hs.join hx
  ·exact hs
theorem Hl{l:List Pb}{i:Nat}{k:Nat}(b:l[i]? =some p)(a:f[i]? =some k):(l.zip f)[i]? =some (p,k):=List.getElem?_zip_eq_some.2 ⟨b,a⟩
theorem IS{l:List Pb}(h:l.length<=f.length):(l.zip f).length=l.length:=by rw[List.length_zip];omega
theorem vP{l:List Pb}(h:∀p∈l,IsS p.cells):∀x∈l.zip f,IsS x.1.cells:=λx a=>h _ (List.of_mem_zip a).1
theorem IK{z:Zs}{i:Nat}{x:Pb×Nat}(h:z[i]? =some x):z.take (i+1)=z.take i++[x]:=by
 obtain⟨a,rfl⟩:=List.getElem?_eq_some_iff.1 h;exact vy a
structure Ht (T:Nat->Option an):Prop where
 p:aM T
 f35:T 49=some f35
 f121:T 87=some f121
 f143:T 73=some f143
 f174:T 86=some f174
 f207:T 74=some f207
 f226:T 109=some f226
variable{mv nv ov pv:Value}
theorem xz(F:Ht T)(hr:Rdy h){q:Nat}(hw:IsW w)(Z:h.get q=some (qt (quL w pv nv ov mv))){l:List Pb}(U:PbS h pv l)(hl:l.length<=8)(hf:f.length=8)(O:IsS s):
 Pu T 109 [sb q,fV f,sv s] h (.bool (alB (l.zip f) s)):=by
 refine .of F.p F.f226 hr rfl ?_;obtain⟨a,c,rfl⟩:=U.form;have N:cellsOf (fV f)=fL f:=by show(fL f).toArray.toList=_;simp
 have L:Ext h ((h.push (qt (cellsOf (fV f)))).push (qt (cellsOf (sv s)))):=((Ext.refl h).push _).push _;have g0:((h.push (qt (cellsOf (fV f)))).push (qt (cellsOf (sv s)))).get h.next=some (qt (fL f)):=by rw[N];exact(z4 (ec _)).trans (z3 h _)
 have g1:((h.push (qt (cellsOf (fV f)))).push (qt (cellsOf (sv s)))).get (h.next+1)=some (qt (us s)):=z3 _ _;have n0:((h.push (qt (cellsOf (fV f)))).push (qt (cellsOf (sv s)))).next=h.next+2:=rfl
 refine Y5 ?_;generalize((h.push (qt (cellsOf (fV f)))).push (qt (cellsOf (sv s))))=H at*;have W:=L.wf hr.wf;have hL:=L.log.trans hr.log;have a7:=(L.old _ (hr.wf.dS Z)).trans Z;have V:=U.ext L;have kp:=E8 hw (.slice a l.length c) nv ov mv;have k8:=aL O.len;have k9:=aV O.len;have Q:=IS (l:=l) (f:=f) (by omega);refine Y10 ?_
 refine bg (λm e ds B=>∃i:Nat,i<=l.length/\m=l.length-i/\e=[(4, sb h.next),(5, sb (h.next+1)),(12, .slice a l.length c),(13, zc (l.length:Nat)),(14, zc (i:Nat))]/\ds=[]/\Ext H B∧alB ((l.zip f).take i) s=true)
  ⟨0,gK _,rfl,rfl,rfl, .refl H,rfl⟩ ?_
 rintro m e ds G ⟨i,n,rfl,rfl,rfl,x,d⟩;have WG:=x.wf W;have D:=x.log.trans hL;have nG:=x.next
 by_cases hlt:i<l.length
 ·obtain⟨p,v⟩:∃r,l[i]? =some r:=⟨l[i],a6 hlt⟩;obtain⟨k,I⟩:∃r,f[i]? =some r:=⟨f[i]'(by omega),a6 _⟩;have g:=U.ok p (bz v);obtain⟨b,o,c2,vs,ae,t,hv,gl,hb,A⟩:=(V.ext x).elem v;cases hv;have k1:=A.all;have k2:=zn g;have k3:=kT g;have k4:=EZ p;have S:zd i l.length true:=cH (by omega);have y:=(x.old _ (by omega)).trans g0;have z:=(x.old _ (by omega)).trans g1;have hz:=Hl v I;have j:alB ((l.zip f).take (i+1)) s=(alB ((l.zip f).take i) s&& !(decide (k=2)&&sIn p.cells s)):=by
   unfold alB;rw[IK hz,Kd];simp
  have u:(decide (k=2)&&sIn p.cells s)=true->alB (l.zip f) s=false:=λq=>by
   unfold alB;rw[P2];exact⟨(p,k),bz hz,by rw[q];simp⟩
  refine Y9 ?_;refine dw (E0:=[(4, sb h.next),(5, sb (h.next+1)),(7, zc (i:Nat)),(8, sb G.next),(12, .slice (some ⟨b,o,none⟩) l.length c),(13, zc (l.length:Nat)),(14, zc (i:Nat))]) (P:=λB=>Ext G B∧B.next=G.next+1/\B.get G.next=some (qt (pbL p))) ?_ ?_
  ·refine Y6 ?_;refine aF (bB (by rfl) (by rfl) YG (by assumption) (by rfl) (by assumption)) ?_;refine bH ?_;refine y1 ?_;exact⟨rfl,rfl,rfl,dX (by omega) _ _,rfl,fU _ _⟩
  rintro G2 ⟨K,n2,g2⟩;have M:=K.wf WG;have E:=K.log.trans D;have X:=(K.old _ (by omega)).trans y;have Y:=(K.old _ (by omega)).trans z;have kf:=BO I;have kc:=se g;have a8:=aL g.len;have J:=x.trans K;clear y z gl k1 k2 A;have mk:af .eql (.int .u8 (k:Nat)) (.int .u8 2)=some (.bool (decide (k=2))):=sJ (c:=2) rfl;have C:=Gb F.p F.f35 F.f121 (h:={G2 with log:=[]}) (.of M) g O;cases hk2:decide (k=2)with
  |false=>
   rw[hk2]at mk j;refine Y20 ?_;exact⟨l.length-(i+1),by omega,i+1,by omega,rfl,rfl,rfl,J,by rw[j,d];rfl⟩
  |true=>
   rw[hk2]at mk j u;cases n:sIn p.cells s with
   |true=>
    rw[n]at C u;rw[u rfl];refine Y14 ?_;refine FW.pu C ?_;refine Y12 ?_;exact ah E rfl rfl
   |false=>
    rw[n]at C j;refine Y14 ?_;refine FW.pu C ?_;refine Y10 ?_;exact⟨l.length-(i+1),by omega,i+1,by omega,rfl,rfl,rfl,J,by rw[j,d];rfl⟩
 ·obtain rfl:i=l.length:=by omega
  have S:zd l.length l.length false:=cS (by omega);rw[←Q,hP]at d;rw[d];refine Y14 ?_;exact ah D rfl rfl
theorem II(s:List Nat)(b:Bool):cO (.tuple #[sv s, .bool b])=true:=by
 have q:flat (sv s)=true:=pP s;show iY [sv s, .bool b]=true;simp only[iY,q];rfl
theorem P6(F:Ht T)(hr:Rdy h){q:Nat}(y:IsW w)(gq:h.get q=some (qt (quL w pv nv ov mv))){l:List Pb}(sp:PbS h pv l)(hl:l.length<=8)(hf:f.length=8):
 Pu T 73 [sb q,fV f] h (.tuple #[sv (bsS w.1 (l.zip f)), .bool (bsB w (l.zip f))]):=by
 refine .of F.p F.f143 hr (II _ _) ?_;obtain⟨a,c,rfl⟩:=sp.form;have cf:cellsOf (fV f)=fL f:=by show(fL f).toArray.toList=_;simp
 have x0:Ext h ((h.push (qt (cellsOf (fV f)))).push (qt (aI 8 (.int .u64 0)))):=((Ext.refl h).push _).push _;have g0:((h.push (qt (cellsOf (fV f)))).push (qt (aI 8 (.int .u64 0)))).get h.next=some (qt (fL f)):=by rw[cf];exact(z4 (ec _)).trans (z3 h _)
 have g1:((h.push (qt (cellsOf (fV f)))).push (qt (aI 8 (.int .u64 0)))).get (h.next+1)=some (qt (us s0)):=z3 _ _;have n0:((h.push (qt (cellsOf (fV f)))).push (qt (aI 8 (.int .u64 0)))).next=h.next+2:=rfl
 refine Y5 ?_;generalize((h.push (qt (cellsOf (fV f)))).push (qt (aI 8 (.int .u64 0))))=H at*;have W:=x0.wf hr.wf;have hL:=x0.log.trans hr.log;have E:=(x0.old _ (hr.wf.dS gq)).trans gq;have e9:=hr.wf.dS gq;have O:=sp.ext x0;have V:=g0;have Z:=g1;have B:=E;have aE:=O;have kp:=E8 y (.slice a l.length c) nv ov mv;have ka:=Yc y (.slice a l.length c) nv ov mv;have kb:=Yd y (.slice a l.length c) nv ov mv;have dj:=aL y.a.len;have db:=aV y.a.len;have dp:=y.a.len;have dq:=aL y.b.len;have cj:=IS (l:=l) (f:=f) (by omega);have ar:=vP (f:=f) sp.ok;refine dw (E0:=[(0, sb q),(3, sb h.next),(4, sb (h.next+1)),(6, sb H.next)]) (P:=λu=>Ext H u∧u.next=H.next+1/\u.get H.next=some (qt (us w.1))) ?_ ?_
 ·refine Y7 ?_;refine aF (bB (by rfl) (by rfl) YG (by(simp only[aB];assumption)) (by rfl) (by exact bX _)) ?_;refine bH ?_;refine y1 ?_;exact⟨rfl,rfl,rfl,dX (by omega) _ _,rfl,YG⟩
 rintro H1 ⟨Q,n1,U⟩;have W1:=Q.wf W;have d9:=Q.log.trans hL;have be:=(Q.old _ (by omega)).trans g0;have bj:=(Q.old _ (by omega)).trans g1;have cd:=(Q.old _ (by omega)).trans E;have cY:=O.ext Q;clear g0 g1 E O;refine Y10 ?_
 refine bg (λm e ds u=>∃i:Nat,i<=l.length/\m=l.length-i/\e=[(0, sb q),(3, sb h.next),(4, sb (h.next+1)),(6, sb H.next),(17, .slice a l.length c),(18, zc (l.length:Nat)),(19, zc (i:Nat))]/\ds=[]/\Ext H u∧H.next<u.next/\u.get H.next=some (qt (us (bsS w.1 ((l.zip f).take i)))))
  ⟨0,gK _,rfl,rfl,rfl,Q,by omega,U⟩ ?_
 clear U be bj cd cY;rintro m e ds G ⟨i,J,rfl,rfl,rfl,D,da,U⟩;have WG:=D.wf W;have I:=D.log.trans hL;have nG:=D.next
 have X:=(D.old _ (by omega)).trans V;have bo:=(D.old _ (by omega)).trans Z;have a8:=(D.old _ (by omega)).trans B;have N:=aE.ext D;have d:IsS (bsS w.1 ((l.zip f).take i)):=nF y.a λx hx=>ar x (wy hx);by_cases hlt:i<l.length
 ·obtain⟨p,K⟩:∃r,l[i]? =some r:=⟨l[i],a6 hlt⟩;obtain⟨k,am⟩:∃r,f[i]? =some r:=⟨f[i]'(by omega),a6 _⟩;have g:=sp.ok p (bz K);obtain⟨b,o,c2,vs,aw,t,hv,gl,hb,a7⟩:=N.elem K;cases hv;have k1:=a7.all;have k2:=zn g;have k3:=kT g;have k4:=EZ p;have cX:zd i l.length true:=cH (by omega);have n:bsS w.1 ((l.zip f).take (i+1))=bsJ (bsS w.1 ((l.zip f).take i)) (p,k):=by
   unfold bsS;rw[IK (Hl K am),D4];rfl
  generalize bsS w.1 ((l.zip f).take i)=s at*;have L:=aL d.len;have M:=aV d.len;have cJ:=d.len;refine Y9 ?_;refine dw (E0:=[(0, sb q),(3, sb h.next),(4, sb (h.next+1)),(6, sb H.next),(7, zc (i:Nat)),(8, sb G.next),(17, .slice (some ⟨b,o,none⟩) l.length c),(18, zc (l.length:Nat)),(19, zc (i:Nat))]) (P:=λu=>Ext G u∧u.next=G.next+1/\u.get G.next=some (qt (pbL p))) ?_ ?_
  ·refine Y6 ?_;refine aF (bB (by rfl) (by rfl) YG (by assumption) (by rfl) (by assumption)) ?_;refine bH ?_;refine y1 ?_;exact⟨rfl,rfl,rfl,dX (by omega) _ _,rfl,fU _ _⟩
  rintro G2 ⟨x2,n2,g2⟩;have ba:=x2.wf WG;have d8:=x2.log.trans I;have Y:=(x2.old _ (by omega)).trans X;have A:=(x2.old _ (by omega)).trans U;have kf:=BO am;have kc:=se g;have du:=aL g.len;have v:=D.trans x2;clear X bo a8 gl k1 k2 a7 U N;have mk:af .eql (.int .u8 (k:Nat)) (.int .u8 1)=some (.bool (decide (k=1))):=sJ (c:=1) rfl;have C:=H9 F.p F.f174 (h:={G2 with log:=[]}) (.of ba) d g;unfold bsJ at n;dsimp only at n;by_cases hk1:k=1
  ·rw[decide_eq_true hk1]at mk;rw[if_pos hk1]at n;have ae:=d.join g;generalize gM s p.cells=j at*;have dE:=aL ae.len;have dT:=ae.len;refine Y12 ?_;refine FW.pu C ?_;refine aF (bB (by rfl) (by rfl) (by assumption) (by(simp only[aB];assumption)) (by(simp only[aB];assumption)) (by exact bX _)) ?_;refine bH ?_;refine y1 ?_;refine MD ?_;refine uA ?_;refine sw ?_;refine Y3 ?_;refine⟨l.length-(i+1),by omega,i+1,by omega,rfl,rfl,rfl,⟨?_,?_,?_,?_⟩,?_,?_⟩
   ·exact ed v.next (bl _)
   ·rw[Heap.au (by omega)];exact v.log
   ·intro z hz;exact(z5 (by omega)).trans (v.old z hz)
   ·intro wf;exact(v.wf wf).as (AS.wr h.next _ _ _)
   ·show H.next<G2.next;omega
   ·rw[n];(simp(disch:=first|omega|(simp only[z1,z2];omega))only[z3,z4,z5,z6,z7,z1,z2,V,Z,gq,B,g2,Y,A];done)
  ·rw[decide_eq_false hk1]at mk;rw[if_neg hk1]at n;refine Y14 ?_;exact⟨l.length-(i+1),by omega,i+1,by omega,rfl,rfl,rfl,v,by omega,by rw[n];exact A⟩
 ·obtain rfl:i=l.length:=by omega
  have cX:zd l.length l.length false:=cS (by omega);rw[←cj,hP]at U d;have C2:=xz F (h:={G with log:=[]}) (.of WG) y a8 (N.log []) hl hf d;have S:=Gb F.p F.f35 F.f121 (h:={G with log:=[]}) (.of WG) d y.b;unfold bsB;generalize alB (l.zip f) (bsS w.1 (l.zip f))=al at*;generalize bsS w.1 (l.zip f)=s at*;have L:=aL d.len;have M:=aV d.len;have cJ:=d.len;have dv:=mJ hf;have dC:=j5 hf;cases J:sIn s w.2 with
  |false=>
   rw[J]at S;refine Y20 ?_;refine FW.puD S (by(repeat apply aC rfl);apply aG rfl (aq rfl (bV (by rfl) (by assumption) (by assumption) (by assumption)) (by exact rK _)) rfl;exact aQ) ?_;clear S C2;refine Y6 ?_;refine jV rfl rfl rfl (by rfl) (by rfl) (by rfl) (by assumption) (by(simp only[aB];assumption)) (by rfl) (by exact bX _) (by omega) (by omega) (by apply aG rfl (aq rfl (BC (by rfl) (by rfl)) (by exact IG _)) rfl;(repeat apply aC rfl);exact aQ) ?_;refine Y5 ?_;refine ah ?_ (bS (own:=true) (s:=1) rfl ?_ M L (rB rfl rfl)) rfl
   ·rw[Heap.au (by omega)];exact I
   ·exact YG
  |true=>
   rw[J]at S;refine Y20 ?_;refine FW.puD S (by(repeat apply aC rfl);apply aG rfl (aq rfl (bV (by rfl) (by assumption) (by assumption) (by assumption)) (by exact rK _)) rfl;exact aQ) ?_;clear S;refine Y5 ?_;refine FW.puD C2 (by(repeat apply aC rfl);apply aG rfl (aq rfl (bV (by rfl) (by assumption) (by assumption) (by assumption)) (by exact rK _)) rfl;exact aQ) ?_;clear C2;refine qZ9 (b:=wM (by rfl) (by rfl)) (H:=?_);refine jV rfl rfl rfl (by rfl) (by rfl) (by rfl) (by assumption) (by(simp only[aB];assumption)) (by rfl) (by exact bX _) (by omega) (by omega) (by apply aG rfl (aq rfl (wM (by rfl) (by rfl)) (by exact IG _)) rfl;apply aC rfl;exact aQ) ?_;refine Y5 ?_;refine ah ?_ (bS (own:=true) (s:=1) rfl ?_ M L (rB rfl rfl)) rfl
   ·rw[Heap.au (by omega)];exact I
   ·exact YG
structure NdS (h:Heap) (nv:Value) (ns:List (List (List Nat))):Prop where
 ex:∃vals:List Value,aK h 1 nv ns.length vals/\∀(i:Nat) (r:List (List Nat)),ns[i]? =some r->∃v,vals[i]? =some v/\SsQ h v r
theorem NdS.form{h:Heap}{b:Value}{ns:List (List (List Nat))}(s:NdS h b ns):∃a c,b= .slice a ns.length c:=by
 obtain⟨d,e,_⟩:=s.ex;exact e.form
theorem NdS.ext{h h':Heap}{b:Value}{ns:List (List (List Nat))}(s:NdS h b ns)(x:Ext h h'):NdS h' b ns:=by
 obtain⟨a,e,f⟩:=s.ex;exact⟨a,e.ext x,λi r c=>by
  obtain⟨v,d,sv⟩:=f i r c;exact⟨v,d,sv.ext x⟩⟩
theorem NdS.log{h:Heap}{b:Value}{ns:List (List (List Nat))}(s:NdS h b ns)(m:List Nat):NdS {h with log:=m} b ns:=by
 obtain⟨a,e,f⟩:=s.ex;exact⟨a,e.log m,λi r c=>by
  obtain⟨v,d,sv⟩:=f i r c;exact⟨v,d,sv.log m⟩⟩
variable{ns:List (List (List Nat))}
theorem NdS.elem{g:Value}(s:NdS h g ns){i:Nat}{r:List (List Nat)}(hi:ns[i]? =some r):
 ∃b o c d a t v,g= .slice (some ⟨b,o,none⟩) ns.length c/\h.get b=some (.cells d a t)/\b<h.next/\bN d (o+i*1)=some v/\SsQ h v r:=by
 obtain⟨j,m,n⟩:=s.ex;obtain⟨v,f,sv⟩:=n i r hi;have l:=(List.getElem?_eq_some_iff.1 hi).1;rcases aK.inv m with⟨_,_,h0,_⟩|⟨b,o,cap,hs,s3,hc⟩
 ·omega
 ·obtain⟨d,a,t,k,e⟩:=s3.obj;refine⟨b,o,cap,d,a,t,v,hs,k,s3.lt,?_,sv⟩;rw[bk,aR]at e;rw[←e,gS (by omega),kK]at f;rw[bW,xf];exact f
def jX(z:Zs)(s:List Nat)(r:List (List Nat)):Nat:=if r.any (λn=>sIn n s)then 1 else if r.any (λn=>alB z (gM s n))then 3 else 2
theorem Jn(F:Ht T)(hr:Rdy h){q:Nat}(hw:IsW w)(gq:h.get q=some (qt (quL w pv nv ov mv))){l:List Pb}(sp:PbS h pv l)(hl:l.length<=8)(Z:f.length=8)(M:IsS s)
 (sn:NdS h nv ns)(cf:ns.length<1000000){j:Nat}{r:List (List Nat)}(hj:ns[j]? =some r)(cj:r.length<1000000):
 Pu T 74 [sb q,fV f,sv s, zc (j:Nat)] h (.int .u8 ((jX (l.zip f) s r:Nat):Int)):=by
 refine .of F.p F.f207 hr rfl ?_;have a7:cellsOf (fV f)=fL f:=by show(fL f).toArray.toList=_;simp
 have S:Ext h ((h.push (qt (cellsOf (fV f)))).push (qt (cellsOf (sv s)))):=((Ext.refl h).push _).push _;have g0:((h.push (qt (cellsOf (fV f)))).push (qt (cellsOf (sv s)))).get h.next=some (qt (fL f)):=by rw[a7];exact(z4 (ec _)).trans (z3 h _)
 have g1:((h.push (qt (cellsOf (fV f)))).push (qt (cellsOf (sv s)))).get (h.next+1)=some (qt (us s)):=z3 _ _;have n0:((h.push (qt (cellsOf (fV f)))).push (qt (cellsOf (sv s)))).next=h.next+2:=rfl
 refine Y5 ?_;refine Pv ?_;generalize((h.push (qt (cellsOf (fV f)))).push (qt (cellsOf (sv s))))=H at*;have W:=S.wf hr.wf;have hL:=S.log.trans hr.log;have ae:=hr.wf.dS gq;have Y:=(S.old _ ae).trans gq;have ar:=sp.ext S;have kn:=TD hw pv nv ov mv;have bo:=(List.getElem?_eq_some_iff.1 hj).1;obtain⟨nb,no,nc,dj,ba,nt,v,a8,gn,cd,gv,sr⟩:=(sn.ext S).elem hj;subst a8;have Q:=sr;obtain⟨a,c,rfl⟩:=sr.sl.form;have cY:=aL M.len;have d8:=aV M.len;have cJ:=mJ Z;have cX:=j5 Z;unfold jX;refine Y19 ?_
 refine bg (λm e ds J=>∃i:Nat,i<=r.length/\m=r.length-i/\e=[(0, sb q),(5, sb h.next),(6, sb (h.next+1)),(9, .int .u8 ((if(r.take i).any (λn=>alB (l.zip f) (gM s n))then 3 else 2:Nat):Int)),(18, .slice a r.length c),(19, zc (r.length:Nat)),(20, zc (i:Nat))]/\ds=[]/\Ext H J∧(r.take i).any (λn=>sIn n s)=false)
  ⟨0,gK _,rfl,rfl,rfl, .refl H,rfl⟩ ?_
 rintro m e ds G ⟨i,bj,rfl,rfl,rfl,t,z⟩;have WG:=t.wf W;have K:=t.log.trans hL;have nG:=t.next
 by_cases hlt:i<r.length
 ·obtain⟨x,N⟩:∃s,r[i]? =some s:=⟨r[i],a6 hlt⟩;have d:=Q.ok x (bz N);obtain⟨b,o,c3,vs,dp,tt,hv,gl,be,el⟩:=(Q.ext t).elem N;cases hv;have d9:=aL d.len;have da:=aV d.len;have db:=d.len;have am:zd i r.length true:=cH (by omega);have C:=(t.old _ (by omega)).trans g0;have D:=(t.old _ (by omega)).trans g1;have E:=(t.old _ (by omega)).trans Y;have g:(r.take (i+1)).any (λn=>sIn n s)=((r.take i).any (λn=>sIn n s)||sIn x s):=by rw[eD N,HG];simp
  have k:(r.take (i+1)).any (λn=>alB (l.zip f) (gM s n))=((r.take i).any (λn=>alB (l.zip f) (gM s n))||alB (l.zip f) (gM s x)):=by rw[eD N,HG];simp
  have O:sIn x s=true->r.any (λn=>sIn n s)=true:=λq=>List.any_eq_true.2 ⟨x,bz N,q⟩;generalize(r.take i).any (λn=>alB (l.zip f) (gM s n))=bb at*;refine Y9 ?_;refine dw (E0:=[(0, sb q),(5, sb h.next),(6, sb (h.next+1)),(9, .int .u8 ((if bb then 3 else 2:Nat):Int)),(11, sb G.next),(18, .slice (some ⟨b,o,none⟩) r.length c),(19, zc (r.length:Nat)),(20, zc (i:Nat))]) (P:=λJ=>Ext G J∧J.next=G.next+1/\J.get G.next=some (qt (us x))) ?_ ?_
  ·refine Y4 ?_;refine aF (bB (by rfl) (by rfl) YG (by(simp only[aB];assumption)) (by rfl) (by exact bX _)) ?_;refine bH ?_;refine y1 ?_;exact⟨rfl,rfl,rfl,dX (by omega) _ _,rfl,YG⟩
  rintro X ⟨B,n2,g2⟩;have y:=B.wf WG;have L:=B.log.trans K;have aw:=(B.old _ (by omega)).trans C;have aE:=(B.old _ (by omega)).trans D;have I:=(B.old _ (by omega)).trans E;have A:=t.trans B;have u:=Gb F.p F.f35 F.f121 (h:={X with log:=[]}) (.of y) d M;have U:=H9 F.p F.f174 (h:={X with log:=[]}) (.of y) M d;have V:=xz F (h:={X with log:=[]}) (.of y) hw I ((ar.ext A).log []) hl Z (M.join d);clear C D E gl el;generalize alB (l.zip f) (gM s x)=ab at*;generalize gM s x=jx at*;cases hin2:sIn x s with
  |true=>
   rw[hin2]at u;rw[if_pos (O hin2)];refine Y5 ?_;refine FW.pu u ?_;refine Y7 ?_;refine XN (by rfl) ?_;refine XN (by rfl) ?_;refine Y9 ?_;exact ah L rfl rfl
  |false=>
   rw[hin2]at u g;rw[z]at g;cases ab with
   |true=>
    rw[Bool.or_true]at k;refine Y5 ?_;refine FW.pu u ?_;clear u;refine Y10 ?_;refine FW.puD U (by(repeat apply aC rfl);apply aG rfl (aq rfl (bV (by rfl) (by assumption) (by assumption) (by assumption)) (by exact TG _)) rfl;apply aG rfl (aq rfl (dx (by rfl)) (by exact di _)) rfl;exact aQ) ?_;clear U;skip;refine qC ?_;refine FW.puD V (by(repeat apply aC rfl);exact aQ) ?_;clear V;refine Y7 ?_;refine bH ?_;refine Y8 ?_;exact⟨r.length-(i+1),by omega,i+1,by omega,rfl,by rw[k];rfl,rfl,A,g⟩
   |false=>
    rw[Bool.or_false]at k;refine Y5 ?_;refine FW.pu u ?_;clear u;refine Y10 ?_;refine FW.puD U (by(repeat apply aC rfl);apply aG rfl (aq rfl (bV (by rfl) (by assumption) (by assumption) (by assumption)) (by exact TG _)) rfl;apply aG rfl (aq rfl (dx (by rfl)) (by exact di _)) rfl;exact aQ) ?_;clear U;skip;refine qC ?_;refine FW.puD V (by(repeat apply aC rfl);exact aQ) ?_;clear V;refine Y13 ?_;exact⟨r.length-(i+1),by omega,i+1,by omega,rfl,by rw[k],rfl,A,g⟩
 ·obtain rfl:i=r.length:=by omega
  have am:zd r.length r.length false:=cS (by omega);rw[hP]at z⊢;rw[if_neg (by rw[z];simp)];refine Y15 ?_;exact ah K rfl rfl
end Go.A.Pk
end
section
namespace Go.Proofs
open Go.Shelf
def Tryz.tf:Go.Shelf.Ren:=⟨fun|6=>95|15=>128|14=>127|28=>151|29=>152|20=>143|21=>144|22=>145|23=>146|24=>147|25=>148|26=>149|27=>150|46=>166|47=>167|48=>168|49=>169|50=>170|57=>172|n=>n,fun|22=>28|24=>24|25=>149|3=>3|39=>157|0=>0|53=>198|55=>22|4=>4|46=>192|45=>191|50=>153|5=>5|9=>9|66=>207|70=>211|76=>213|77=>214|n=>n,fun|n=>n⟩
theorem Tryz.qz:Go.Proofs.SlLaysF0.n6 Tryz.prog Tryz.tf:={
 mixed:=by kernel_rfl
 f6:=⟨Tryz.f95.name,by decide,Tryz.func95.trans (congrArg some (by kernel_rfl))⟩
 f14:=⟨Tryz.f127.name,by decide,Tryz.func127.trans (congrArg some (by kernel_rfl))⟩
 f15:=Tryz.func128.trans (congrArg some (by kernel_rfl))
 f20:=⟨Tryz.f143.name,by decide,Tryz.func143.trans (congrArg some (by kernel_rfl))⟩
 f21:=⟨Tryz.f144.name,by decide,Tryz.func144.trans (congrArg some (by kernel_rfl))⟩
 f22:=⟨Tryz.f145.name,by decide,Tryz.func145.trans (congrArg some (by kernel_rfl))⟩
 f23:=⟨Tryz.f146.name,by decide,Tryz.func146.trans (congrArg some (by kernel_rfl))⟩
 f24:=⟨Tryz.f147.name,by decide,Tryz.func147.trans (congrArg some (by kernel_rfl))⟩
 f25:=⟨Tryz.f148.name,by decide,Tryz.func148.trans (congrArg some (by kernel_rfl))⟩
 f26:=⟨Tryz.f149.name,by decide,Tryz.func149.trans (congrArg some (by kernel_rfl))⟩
 f27:=⟨Tryz.f150.name,by decide,Tryz.func150.trans (congrArg some (by kernel_rfl))⟩
 f28:=Tryz.func151.trans (congrArg some (by kernel_rfl))
 f29:=Tryz.func152.trans (congrArg some (by kernel_rfl))
 f46:=⟨Tryz.f166.name,by decide,Tryz.func166.trans (congrArg some (by kernel_rfl))⟩
 f47:=Tryz.func167.trans (congrArg some (by kernel_rfl))
 f48:=Tryz.func168.trans (congrArg some (by kernel_rfl))
 f49:=⟨Tryz.f169.name,by decide,Tryz.func169.trans (congrArg some (by kernel_rfl))⟩
 f50:=⟨Tryz.f170.name,by decide,Tryz.func170.trans (congrArg some (by kernel_rfl))⟩
 f57:=⟨Tryz.f172.name,by decide,Tryz.func172.trans (congrArg some (by kernel_rfl))⟩
 t0:=Tryz.underlying0
 a0:=Tryz.isAgg0
 z0:=Tryz.sizeOf0
 v0:=Tryz.zeroValue0
 t3:=Tryz.underlying3
 a3:=Tryz.isAgg3
 z3:=Tryz.sizeOf3
 v3:=Tryz.zeroValue3
 t4:=Tryz.underlying4
 a4:=Tryz.isAgg4
 z4:=Tryz.sizeOf4
 v4:=Tryz.zeroValue4
 t5:=Tryz.underlying5
 a5:=Tryz.isAgg5
 z5:=Tryz.sizeOf5
 v5:=Tryz.zeroValue5
 t9:=Tryz.underlying9
 a9:=Tryz.isAgg9
 z9:=Tryz.sizeOf9
 v9:=Tryz.zeroValue9
 t22:=Tryz.underlying28
 a22:=Tryz.isAgg28
 z22:=Tryz.sizeOf28
 v22:=Tryz.zeroValue28
 t25:=Tryz.underlying149
 a25:=Tryz.isAgg149
 z25:=Tryz.sizeOf149
 v25:=Tryz.zeroValue149
 t39:=Tryz.underlying157
 a39:=Tryz.isAgg157
 z39:=Tryz.sizeOf157
 v39:=Tryz.zeroValue157
 t45:=Tryz.underlying191
 a45:=Tryz.isAgg191
 z45:=Tryz.sizeOf191
 v45:=Tryz.zeroValue191
 t46:=Tryz.underlying192
 a46:=Tryz.isAgg192
 z46:=Tryz.sizeOf192
 v46:=Tryz.zeroValue192
 t50:=Tryz.underlying153
 a50:=Tryz.isAgg153
 z50:=Tryz.sizeOf153
 v50:=Tryz.zeroValue153
 t53:=Tryz.underlying198
 a53:=Tryz.isAgg198
 z53:=Tryz.sizeOf198
 v53:=Tryz.zeroValue198
 t55:=Tryz.underlying22
 a55:=Tryz.isAgg22
 z55:=Tryz.sizeOf22
 v55:=Tryz.zeroValue22
 t66:=Tryz.underlying207
 a66:=Tryz.isAgg207
 z66:=Tryz.sizeOf207
 v66:=Tryz.zeroValue207
 t70:=Tryz.underlying211
 a70:=Tryz.isAgg211
 z70:=Tryz.sizeOf211
 v70:=Tryz.zeroValue211
 t76:=Tryz.underlying213
 a76:=Tryz.isAgg213
 z76:=Tryz.sizeOf213
 v76:=Tryz.zeroValue213
 t77:=Tryz.underlying214
 a77:=Tryz.isAgg214
 z77:=Tryz.sizeOf214
 v77:=Tryz.zeroValue214}
open Go.RowKit Go.Lib Go.Sort in
theorem Tryz.slices_SortFunc_none(p:Option Addr)(cap:Nat)(a:Value)(w:World):
 Calls Tryz.prog 95 #[.slice p 0 cap,a] w λe w'=>e= .returned (.tuple #[])/\w'=w:=AnyF.slices_SortFunc_none Tryz.qz p cap a w
end Go.Proofs
end
section
namespace Go.A.Pk
open Go Go.Proofs Go.Sort
theorem jg:∀{a b:List Nat},a.length=b.length->cmpL b a= -cmpL a b
 |[],[],_=>rfl
 |[],_::_,h=>by cases h
 |_::_,[],h=>by cases h
 |x::a,y::b,h=>by
  unfold cmpL;by_cases h1:x<y
  ·rw[if_neg (by omega),if_pos h1,if_pos h1];rfl
  ·by_cases h2:y<x
   ·rw[if_pos h2,if_neg h1,if_pos h2]
   ·rw[if_neg h2,if_neg h1,if_neg h1,if_neg h2];exact jg (by simpa using h)
theorem kL:∀{a b:List Nat},a.length=b.length->cmpL a b=0->a=b
 |[],[],_,_=>rfl
 |[],_::_,h,_=>by cases h
 |_::_,[],h,_=>by cases h
 |x::a,y::b,h,h0=>by
  unfold cmpL at h0;by_cases h1:x<y
  ·rw[if_pos h1]at h0;cases h0
  ·by_cases h2:y<x
   ·rw[if_neg h1,if_pos h2]at h0;cases h0
   ·rw[if_neg h1,if_neg h2]at h0;rw[show x=y by omega,kL (by simpa using h) h0]
theorem oU:∀{a b c:List Nat},a.length=b.length->b.length=c.length->cmpL a b<0->cmpL b c<0->cmpL a c<0
 |[],[],_,_,_,h,_=>by unfold cmpL at h;omega
 |[],_::_,_,h,_,_,_=>by cases h
 |_::_,[],_,h,_,_,_=>by cases h
 |_::_,_::_,[],_,h,_,_=>by cases h
 |x::a,y::b,z::c,h1,h2,q1,q2=>by
  unfold cmpL at q1 q2⊢;by_cases a1:x<y
  ·by_cases b1:y<z
   ·rw[if_pos (show x<z by omega)];omega
   ·rw[if_neg b1]at q2;by_cases b2:z<y
    ·rw[if_pos b2]at q2;omega
    ·rw[if_pos (show x<z by omega)];omega
  ·rw[if_neg a1]at q1;by_cases a2:y<x
   ·rw[if_pos a2]at q1;omega
   ·rw[if_neg a2]at q1;by_cases b1:y<z
    ·rw[if_pos (show x<z by omega)];omega
    ·rw[if_neg b1]at q2;by_cases b2:z<y
     ·rw[if_pos b2]at q2;omega
     ·rw[if_neg b2]at q2;rw[if_neg (show¬x<z by omega),if_neg (show¬z<x by omega)];exact oU (by simpa using h1) (by simpa using h2) q1 q2
abbrev Sol:={l:List Nat // IsS l}
instance:Inhabited Sol:=⟨⟨s0,Bf⟩⟩
def xW(x:Sol):List Value:=us x.1
def cfS(x y:Sol):Int:=cmpL x.1 y.1
theorem kA(x y:Sol):x.1.length=y.1.length:=x.2.len.trans y.2.len.symm
theorem HH:SWO (ltOf cfS):=by
 refine⟨λx=> ?_,λx y z a b=> ?_,λx y z a b=> ?_⟩
 ·unfold ltOf cfS;rw[nW];rfl
 ·unfold ltOf cfS at*;rw[decide_eq_true_eq]at*;exact oU (kA x y) (kA y z) a b
 ·unfold ltOf cfS at*;rw[decide_eq_false_iff_not]at*;have c:=jg (kA x y);have d:=jg (kA y z);have f:=jg (kA x z);rcases Int.lt_or_eq_of_le (show cmpL y.1 x.1<=0 by omega)with q|q
  ·rcases Int.lt_or_eq_of_le (show cmpL z.1 y.1<=0 by omega)with p|p
   ·have:=oU (kA z y) (kA y x) p q;omega
   ·have e:=kL (kA z y) p;rw[e];omega
  ·have e:=kL (kA y x) q;rw[←e];omega
theorem Ly(x y:Sol)(h1:ltOf cfS x y=false)(b:ltOf cfS y x=false):x=y:=by
 unfold ltOf cfS at*;rw[decide_eq_false_iff_not]at*;have a:=jg (kA x y);exact Subtype.ext (kL (kA x y) (by omega))
theorem D7(x:Sol):(xW x).length=8:=by unfold xW;rw[aB,x.2.len]
theorem HU(d:Array Sol):flatK xW 8 d=(ssL (d.toList.map (·.1))).toArray:=by
 have a:∀s∈d.toList.map (·.1),IsS s:=λs h=>by
  obtain⟨x,_,rfl⟩:=List.mem_map.1 h;exact x.2
 have f:(ssL (d.toList.map (·.1))).length=d.size*8:=by rw[fH a];simp
 apply ext_get! ((size_flatK xW 8 d).trans f.symm);intro t i;have b:t<d.size*8:=by simpa using i
 rw[get_flatK _ _ _ t b];have c:t / 8<d.size:=by omega
 have j:(d.toList.map (·.1))[t / 8]? =some (d[t / 8]!).1:=by
  rw[xc,Array.getElem?_toList,Array.getElem?_eq_getElem c,getElem!_pos d (t / 8) c];rfl
 have g:=IE a j;have e:((ssL (d.toList.map (·.1))).drop (t / 8*8))[t % 8]? =(us (d[t / 8]!).1)[t % 8]? :=by
  rw[←g,gS (by omega)]
 rw[kK,show t / 8*8+t % 8=t by omega]at e;have k:(us (d[t / 8]!).1).length=8:=D7 _;rw[a6 (by omega),a6 (by omega),Option.some.injEq]at e;show(us (d[t / 8]!).1)[t % 8]! =(ssL (d.toList.map (·.1))).toArray[t]!;rw[getElem!_pos _ (t % 8) (by omega),getElem!_pos _ t (show t<(ssL (d.toList.map (·.1))).length by rw[f];exact b),←e];rfl
theorem D6:Rdy (⟨[],1000,[]⟩:Heap):=⟨⟨by simp,by intro b a;simp at a⟩,rfl⟩
theorem LR.flat{μ:Mu}:∀{l:List Value},(∀a∈l,cO a=true)->LR μ l l
 |[],_=> .nil
 |a::l,h=> .cons (VR.cO (h a bx)).1 (LR.flat λx hx=>h x (bu _ hx))
theorem vS{P:Program}{T:Nat->Option an}(S:eV P T)(x:P.globals.size<=1000){f:Nat}{args:List Value}{v:Value}(h:iD (T f)=false)(H:Pu T f args ⟨[],1000,[]⟩ v)(u:∀a∈args,cO a=true)(E:cO v=true)(w:World):
 Calls P f args.toArray w λe c=>e= .returned v/\∃q os',c=Sort.grow (w.drewN q) os':=by
 obtain⟨J,G,⟨m,B⟩,rfl,rfl⟩:=H;have d:=B m (bl _);refine(mX S d rfl h (R.none (P:=P) (w:=w) x) (LR.flat u)).mono λe c C=> ?_;obtain⟨μ',l,I,n⟩:=C;cases e with
 |returned v'=>
  have j:VR μ' v v':=l;rw[(VR.cO E).2 _ j];have z:∀r,r<w.heap.size->c.heap[r]? =w.heap[r]? :=λr D=>n.keep r D λ⟨b,o,k,g,_⟩=>by cases g
  refine⟨rfl,c.drawn-w.drawn,c.heap.extract w.heap.size c.heap.size,?_⟩;have A:=n.le;have y:c.heap=w.heap++c.heap.extract w.heap.size c.heap.size:=by
   apply Array.ext_getElem?;intro i;by_cases hi:i<w.heap.size
   ·rw[z i hi,Array.getElem?_append_left hi]
   ·rw[Array.getElem?_append_right (by omega),Array.getElem?_extract];by_cases h2:i<c.heap.size
    ·rw[if_pos (by omega)];congr 1;omega
    ·rw[if_neg (by omega),Array.getElem?_eq_none (by omega)]
  obtain⟨p,s,t,F⟩:=n.same;cases w with
  |mk a1 a2 a3 a4 a5=>
   cases c with
   |mk b1 b2 b3 b4 b5=>
    dsimp only at p s t F y;subst p;subst s;subst t;show World.mk b1 _ b3 _ _=World.mk (a1++_) _ (a3+(b3-a3)) _ _;rw[show a3+(b3-a3)=b3 by omega];congr 1
 |panicked _=>exact l.elim
 |outgrown=>exact l.elim
theorem YY:aJ Tryz.prog Tryz.f126 [[2,3],[4]]=some f168:=by kernel_rfl
theorem YZ:aJ Tryz.prog Tryz.f96 [[2,3],[4]]=some f190:=by kernel_rfl
theorem Y0:aJ Tryz.prog Tryz.f97 [[0,1],[0,1,9,10,11],[0,1,9,10,11,12],[0,1,5,6,9,10,11],[0,1,5,6,9,10,11,19],[4],[0,1,6,7,9,10,11],[0,1,8,9,10,11],[0,1,8,9,10,11,28],[4],[0,1,9,10,11],[35],[4],[4]]=some f191:=by kernel_rfl
theorem Y1:aJ Tryz.prog Tryz.f129 [[0,1],[0,1,5],[0,1,5,6],[0,1,6,11],[12],[4],[4],[0,1,13],[4],[0,1,16],[4],[19],[4],[4]]=some f256:=by kernel_rfl
theorem Za:aJ Tryz.prog Tryz.f153 [[0],[2]]=some f315:=by kernel_rfl
def Pj:Tr:=(.node (.node (.node .nil 96 f190 .nil) 97 f191 .nil) 126 f168 (.node (.node .nil 129 f256 .nil) 153 f315 .nil))
def TC:Nat->Option an:=Pj.get
theorem YT:Pj.all (Entry Tryz.prog):=by
 unfold Pj;exact(Tr.aa (Tr.aa (Tr.aa Tr.all_nil (.of Tryz.func96 YZ) Tr.all_nil) (.of Tryz.func97 Y0) Tr.all_nil) (.of Tryz.func126 YY) (Tr.aa (Tr.aa Tr.all_nil (.of Tryz.func129 Y1) Tr.all_nil) (.of Tryz.func153 Za) Tr.all_nil))
theorem GZ:eV Tryz.prog TC:=sq (by kernel_rfl) YT
theorem XG:Ar TC:={p:=GZ.aM,f191:=by kernel_rfl,f256:=by kernel_rfl,f315:=by kernel_rfl}
theorem I5(k:Nat)(d:k=126∨k=96)(x y:Sol)(w:World):Calls Tryz.prog k #[.agg (xW x).toArray, .agg (xW y).toArray] w λe w'=>e= .returned (zc (cfS x y))/\∃q os',w'=Sort.grow (w.drewN q) os':=by
 have c:∀a∈[sv x.1,sv y.1],cO a=true:=λa b=>by
  rcases List.mem_cons.1 b with rfl|b
  ·exact iK _
  ·rw[List.mem_singleton.1 b];exact iK _
 rcases d with rfl|rfl
 ·exact vS GZ oe (by kernel_rfl) (QS XG (by kernel_rfl) D6 x.2 y.2) c rfl w
 ·exact vS GZ oe (by kernel_rfl) (QT XG (by kernel_rfl) D6 x.2 y.2) c rfl w
theorem Ih(l:List (List Nat))(h:∀s∈l,IsS s):∃d:List Sol,d.map (·.1)=l:=⟨l.attach.map λx=>⟨x.1,h _ x.2⟩,by simp⟩
theorem Fu(d:List Sol):(d.mergeSort λx y=> !(ltOf cfS) y x).map (·.1)=fB (d.map (·.1)):=by
 unfold fB;exact List.map_mergeSort λa _ b _=>rfl
theorem F5(k:Nat)(a:k=126∨k=96):∀args w,(callFunc k args).run Tryz.prog w= .ok (.enter k args) w:=by
 rcases a with rfl|rfl
 ·exact enters_of Tryz.func126 (by kernel_rfl) rfl
 ·exact enters_of Tryz.func96 (by kernel_rfl) rfl
theorem X8:Entry Tryz.prog 95 (.mb (qZ 126 96)):=by
 refine .mb (JP Tryz.func95 (of_decide_eq_true (by kernel_rfl)) (by kernel_rfl) (λk p c w=>Tryz.slices_SortFunc_none p c _ w) ?_);intro k q a b c l w o t f z;obtain⟨d,i⟩:=Ih l o;have j:flatK xW 8 d.toArray=(ssL l).toArray:=by rw[HU];simp[i]
 have g:d.length=l.length:=by rw[←i];simp
 have h:=AnyQ.slices_SortFunc_total Tryz.qz 8 (Tryz.isAgg24) (Tryz.sizeOf24) xW D7 (λx v A=>by
  obtain⟨n,_,rfl⟩:=List.mem_map.1 A;rfl) cfS HH k #[] a b c d.toArray w (F5 k q) (λm os s r x y=>by
   have:=I5 k q x y (sortWorldK xW 8 w a b m s os);simpa using this) (by
   show Holds id w a b (flatK xW 8 d.toArray);rw[j];exact t) f (by simpa[g]using z) Ly
 have r:d.toArray.size=l.length:=by simpa using g
 rw[r]at h;refine h.mono λe C ⟨u,n,os,B⟩=>⟨u,n,os,?_⟩;rw[B];show Sort.grow (putRow id (Sort.ahead w n) a b (flatK xW 8 _)) os=_;rw[HU];congr 2;have:=Fu d;rw[i]at this;simpa using congrArg ssL this
end Go.A.Pk
end
section
namespace Go.A.Pk
open Go.Sort Go.Proofs
def SLt(a b:List Nat):Prop:=cmpL a b<0
variable{l:List (List Nat)}
theorem IC(h:∀s∈l,IsS s):(fB l).Pairwise λa b=>¬cmpL b a<0:=by
 obtain⟨d,rfl⟩:=Ih l h;rw[←Fu];have e:=HH;have i:=List.pairwise_mergeSort (le:=λx y:Sol=> !(ltOf cfS) y x) (λa b c f g=>by
  rw[Hn]at*;exact e.ntrans _ _ _ g f) (λa b=>by
  rw[q9,Hn,Hn];cases hab:ltOf cfS b a with
  |false=>exact .inl rfl
  |true=>
   right;cases hba:ltOf cfS a b with
   |false=>rfl
   |true=>
    have:=e.trans _ _ _ hab hba;rw[e.irrefl]at this;cases this) d
 rw[List.pairwise_map];refine i.imp λ{a b} q=> ?_;rw[Hn]at q;unfold ltOf cfS at q;exact of_decide_eq_false q
theorem LJ:∀{l:List (List Nat)},(∀s∈l,IsS s)->(l.Pairwise λa b=>¬cmpL b a<0)->(ddS l).Pairwise SLt
 |[],_,_=>List.Pairwise.nil
 |[a],_,_=>List.pairwise_singleton _ _
 |a::b::l,h,hp=>by
  obtain⟨h1,h2⟩:=List.pairwise_cons.1 hp;have j:=LJ (λs m=>h s (bu _ m)) h2;unfold ddS;by_cases e:a=b
  ·rw[if_pos e];exact j
  ·rw[if_neg e];refine List.pairwise_cons.2 ⟨λx n=> ?_,j⟩;have c:=oW n;have f:=h a bx;have i:=h b (bu _ bx);have g:=h x (bu _ c);have k:a.length=x.length:=f.len.trans g.len.symm;have r:=h1 x c;have o:=jg k;rcases Int.lt_or_eq_of_le (show cmpL a x<=0 by omega)with q|q
   ·exact q
   ·have d:=kL k q;have t:=h1 b bx;have p:=jg (f.len.trans i.len.symm);have u:¬cmpL a b<0:=by
     rcases List.mem_cons.1 c with rfl|c
     ·exact absurd d e
     ·have:=(List.pairwise_cons.1 h2).1 x c;rw[←d]at this;exact this
    exact absurd (kL (f.len.trans i.len.symm) (by omega)) e
theorem mU(a:List Nat):¬SLt a a:=by unfold SLt;rw[nW];omega
theorem J7(h:l.Pairwise SLt):l.Nodup:=by
 unfold List.Nodup;exact h.imp λ{a b} q (e:a=b)=>mU a (by rw[←e]at q;exact q)
theorem zY:∀{l k:List (List Nat)},(∀s∈l,IsS s)->(∀s∈k,IsS s)->l.Pairwise SLt->k.Pairwise SLt->(∀x,x∈l↔x∈k)->l=k
 |[],[],_,_,_,_,_=>rfl
 |[],b::k,_,_,_,_,h=>by have:=(h b).2 bx;cases this
 |a::l,[],_,_,_,_,h=>by have:=(h a).1 bx;cases this
 |a::l,b::k,hl,hk,p1,p2,h=>by
  obtain⟨f,i⟩:=List.pairwise_cons.1 p1;obtain⟨g,j⟩:=List.pairwise_cons.1 p2;have d:a=b:=by
   rcases List.mem_cons.1 ((h a).1 bx)with q|q
   ·exact q
   ·rcases List.mem_cons.1 ((h b).2 bx)with q2|q2
    ·exact q2.symm
    ·have o:=g a q;have p:=f b q2;have m:=hl a bx;have n:=hk b bx;unfold SLt at o p;have:=jg (m.len.trans n.len.symm);omega
  subst d;congr 1;refine zY (λs e=>hl s (bu _ e)) (λs e=>hk s (bu _ e)) i j λx=>⟨λc=> ?_,λc=> ?_⟩
  ·rcases List.mem_cons.1 ((h x).1 (bu _ c))with rfl|q
   ·exact absurd (f _ c) (mU _)
   ·exact q
  ·rcases List.mem_cons.1 ((h x).2 (bu _ c))with rfl|q
   ·exact absurd (g _ c) (mU _)
   ·exact q
variable{w:List Nat×List Nat}
theorem EK(d:IsW w)(o:List Nat):(nj w o).Pairwise SLt:=by
 unfold nj;have h:∀s∈(lU w.2 o).map λp=>eU p w.1,IsS s:=λs b=>by
  obtain⟨p,c,rfl⟩:=List.mem_map.1 b;exact(pH c).less d.a
 exact LJ (λs b=>h s (ir.1 b)) (IC h)
theorem AY{o q:List Nat}:q∈nj w o↔ ∃p∈lU w.2 o,eU p w.1=q:=by
 unfold nj;constructor
 ·intro h;exact List.mem_map.1 (ir.1 (oW h))
 ·intro h;exact uq (ir.2 (List.mem_map.2 h))
variable{a b p:List Nat}
theorem N8(hb:¬b=s0):p∈lU a b↔ ∃f∈jm a b,f.s=p:=by
 unfold lU;rw[if_neg hb];constructor
 ·intro h;exact List.mem_map.1 (ir.1 (oW h))
 ·intro h;exact uq (ir.2 (List.mem_map.2 h))
theorem zf{α:Type}[DecidableEq α]:∀{l k:List α},l.Nodup->(∀x∈l,x∈k)->l.length<=k.length
 |[],_,_,_=>gK _
 |a::l,k,hn,h=>by
  obtain⟨h1,h2⟩:=List.nodup_cons.1 hn;have b:=h a bx;have d:=zf (k:=k.erase a) h2 λx c=>(List.mem_erase_of_ne (λ(e:x=a)=>h1 (by rw[←e];exact c))).2 (h x (bu _ c));rw[List.length_erase_of_mem b]at d;have:=List.length_pos_of_mem b;rw[me];omega
theorem Qa{n m:Nat}(h:ceN n=ceN m):n=m:=by
 unfold ceN at h;injection h with h1 h2 h3
 omega
theorem DS(s:List Nat)(n:Nat):(aX s n).Nodup:=by
 unfold aX;refine List.Pairwise.filter _ ?_;rw[List.pairwise_map];exact List.nodup_range.imp λ{a b} h e=>h (Qa e)
theorem AW{f:Ce->Ce}{s:List Nat}(g:∀c∈aX s 512,inG (f c)=true)(j:∀c d,f c=f d->c=d):gX s<=gX (iu f s):=by
 unfold gX;rw[←List.length_map (f:=f)];refine zf ?_ λx k=> ?_
 ·unfold List.Nodup;rw[List.pairwise_map];exact(DS s 512).imp λ{a b} h e=>h (j a b e)
 ·obtain⟨c,i,rfl⟩:=List.mem_map.1 k;exact dO.2 ((jE g _).2 ⟨c,dO.1 i,rfl⟩)
theorem OJ(k:Nat)(c d:Ce)(h:ei k c=ei k d):c=d:=by
 obtain⟨a,b,e⟩:=c;obtain⟨f,g,i⟩:=d;unfold ei at h;split at h<;>(injection h with h1 h2 h3;(try dsimp only at h1 h2 h3);congr 1<;>omega)
theorem Fj:∀(n:Nat) (c d:Ce),pL n c=pL n d->c=d
 |0,_,_,h=>h
 |n+1,c,d,h=>by
  refine Fj n c d ?_;unfold pL GV at h;injection h with h1 h2 h3
  generalize pL n c=x at*;generalize pL n d=y at*;obtain⟨x1,x2,x3⟩:=x;obtain⟨a,b,e⟩:=y;dsimp only at h1 h2 h3;congr 1;omega
theorem Pm(t:Nat)(c d:Ce)(h:gi t c=gi t d):c=d:=OJ _ _ _ (Fj _ _ _ h)
theorem Vk(x y z:Int)(c d:Ce)(h:shC x y z c=shC x y z d):c=d:=by
 obtain⟨a,b,e⟩:=c;obtain⟨f,g,i⟩:=d;unfold shC at h;injection h with h1 h2 h3
 dsimp only at h1 h2 h3;congr 1<;>omega
theorem Cq{t:Nat}{x y z:Int}(r:Rng (bY (dM b t)).1 x y z):gX b<=gX (iu (shC x y z) (dM b t)):=
 ed (AW (λc a=>nC c (jf a)) (Pm t)) (AW (λc a=>r.all (dO.1 a)) (Vk x y z))
def TI(a b p:List Nat):Prop:=∃t,t<24/\∃x y z,Rng (bY (dM b t)).1 x y z/\iu (shC x y z) (dM b t)=p/\sIn p a=true
theorem Qw(K:IsS a)(hb:IsS b)(J:¬b=s0):(∃f∈jm a b,f.s=p)↔TI a b p:=by
 have m:=λt=>mV b t;constructor
 ·rintro⟨f,g,rfl⟩;unfold jm at g;split at g
  ·cases g
  ·obtain⟨t,A,g⟩:=List.mem_flatMap.1 g;have T:=iA (dM b t);have v:=iA a;unfold qn Ja yc vq wJ at g;obtain⟨z,O,g⟩:=List.mem_flatMap.1 g;obtain⟨y,N,g⟩:=List.mem_flatMap.1 g;obtain⟨x,M,g⟩:=List.mem_flatMap.1 g;rw[Dn]at M N O;obtain⟨⟨G,H,I⟩,⟨D,E,F⟩⟩:=v;have r:Rng (bY (dM b t)).1 x y z:=⟨by omega,by omega,by omega⟩;split at g
   ·rename_i i;rw[List.mem_singleton.1 g];refine⟨t,List.mem_range.1 A,x,y,z,r,?_,i⟩;exact(Ic (m t) r).symm
   ·cases g
 ·rintro⟨t,A,x,y,z,r,rfl,i⟩;have j:=(mj (mP r) K).1 i;have e:∀c,eO (dM b t) c=true->eO a (shC x y z c)=true:=λc h=>j _ ((jE (λd L=>r.all (dO.1 L)) _).2 ⟨c,h,rfl⟩);have n:∀x∈aX b 512,inG (gi t x)=true:=λc h=>nC c (jf h);have l:¬dM b t=s0:=by
   intro q;obtain⟨c,h⟩:=oI hb J;have:=(jE n (gi t c)).2 ⟨c,h,rfl⟩;rw[show iu (gi t) b=s0 from q,nr]at this;cases this
  obtain⟨B,k⟩:=oI (m t) l;have C:=mZ (e B k);obtain⟨P,Q,S⟩:=lC.1 (Mk k);unfold shC at C;dsimp only at C;have lo:=TT l (x:=(bY a).1.lo.x-x) (y:=(bY a).1.lo.y-y) (z:=(bY a).1.lo.z-z) (by omega) (by omega) (by omega) λc h=>by
   have:=mZ (e c h);unfold shC at this;dsimp only at this;omega
  have W:=F3 l (x:=(bY a).1.hi.x-x) (y:=(bY a).1.hi.y-y) (z:=(bY a).1.hi.z-z) (by omega) (by omega) (by omega) λc h=>by
   have:=mZ (e c h);unfold shC at this;dsimp only at this;omega
  have o:¬gX a<gX b:=by
   have U:=Cq r;have V:=Sub.cnt j;omega
  have w:¬a=s0:=by
   intro q;have:=e B k;rw[q,nr]at this;cases this
  have u:=Ic (m t) r;refine⟨⟨t,x,y,z,lY (dM b t) (bY (dM b t)).1 x y z⟩,?_,u⟩;unfold jm;rw[if_neg (λq=>q.elim w o)];refine List.mem_flatMap.2 ⟨t,List.mem_range.2 A,?_⟩;unfold qn Ja yc vq wJ;refine List.mem_flatMap.2 ⟨z,Dn.2 (by omega),List.mem_flatMap.2 ⟨y,Dn.2 (by omega),List.mem_flatMap.2 ⟨x,Dn.2 (by omega),?_⟩⟩⟩;rw[if_pos (by rw[u];exact i)];exact List.mem_singleton.2 rfl
theorem wX(d:IsS a)(hb:IsS b)(c:¬b=s0):p∈lU a b↔TI a b p:=by
 rw[N8 c,Qw d hb c]
end Go.A.Pk
end
section
namespace Go.A.Pk
variable {T:Nat->Option an}
variable{w:List Nat×List Nat}{o:List Nat}
theorem qS(a:IsW w){s:List Nat}(h:s∈dZ w o):IsS s:=uI a (List.mem_filter.1 h).1
theorem oB(w:List Nat×List Nat)(o:List Nat):(dZ w o).length<=98304:=ed (PP ..) (vA w o)
variable{a b c:List Nat}
theorem Sub.trans(h1:Sub a b)(d:Sub b c):Sub a c:=λx e=>d x (h1 x e)
theorem vK(d:IsS a)(hb:IsS b):Sub a (gM a b):=λc e=>by rw[vJ d hb,e];rfl
theorem Kc(d:IsS a)(hb:IsS b):Sub b (gM a b):=λc e=>by rw[vJ d hb,e,Bool.or_true]
theorem MB(f:IsS a)(hb:IsS b)(h1:Sub a c)(e:Sub b c):Sub (gM a b) c:=λx d=>by
 rw[vJ f hb,q9]at d;exact d.elim (h1 x) (e x)
theorem uf:∀{z:Zs} {s:List Nat},IsS s->(∀x∈z,IsS x.1.cells)->Sub s (bsS s z)
 |[],s,_,_=>λc hc=>hc
 |x::z,s,hs,h=>by
  have hx:=h x bx;have a:∀y∈z,IsS y.1.cells:=λy b=>h y (bu _ b);show Sub s (bsS (bsJ s x) z);unfold bsJ;split
  ·exact(vK hs hx).trans (uf (hs.join hx) a)
  ·exact uf hs a
theorem wO:∀{z:Zs} {s:List Nat},IsS s->(∀x∈z,IsS x.1.cells)->∀x∈z,x.2=1->Sub x.1.cells (bsS s z)
 |[],_,_,_,x,hx,_=>by cases hx
 |y::z,s,hs,h,x,hx,h1=>by
  have a:=h y bx;have b:∀y∈z,IsS y.1.cells:=λy a=>h y (bu _ a);show Sub x.1.cells (bsS (bsJ s y) z);rcases List.mem_cons.1 hx with rfl|hx
  ·unfold bsJ;rw[if_pos h1];exact(Kc hs a).trans (uf (hs.join a) b)
  ·unfold bsJ;split
   ·exact wO (hs.join a) b x hx h1
   ·exact wO hs b x hx h1
def trB(w:List Nat×List Nat)(z:Zs)(t:List Nat):Bool:=
 sIn w.1 t&&sIn t w.2&&z.all λx=> !((decide (x.2=1)&& !sIn x.1.cells t)||(decide (x.2=2)&&sIn x.1.cells t))
variable{z:Zs}
theorem Pf{t:List Nat}(h:∀x∈z,x.2=1->sIn x.1.cells t=true):(z.all λx=> !((decide (x.2=1)&& !sIn x.1.cells t)||(decide (x.2=2)&&sIn x.1.cells t)))=alB z t:=by
 have e:∀x∈z,(!((decide (x.2=1)&& !sIn x.1.cells t)||(decide (x.2=2)&&sIn x.1.cells t)))= !(decide (x.2=2)&&sIn x.1.cells t):=λx a=>by
  by_cases hk:x.2=1
  ·rw[h x a hk,decide_eq_true hk];rfl
  ·rw[decide_eq_false hk];rfl
 unfold alB;rw[xp,GE,GE];exact⟨λq x a=>by rw[←e x a];exact q x a,λq x a=>by rw[e x a];exact q x a⟩
theorem Sv(b:IsW w)(c:∀x∈z,IsS x.1.cells):trB w z (bsS w.1 z)=bsB w z:=by
 have d:=nF b.a c;unfold trB bsB;rw[Pf λx e f=>(mj (c x e) d).2 (wO b.a c x e f),(mj b.a d).2 (uf b.a c),wd]
theorem Sw(c:IsW w)(f:∀x∈z,IsS x.1.cells)(g:bsB w z=true){n:List Nat}(e:IsS n)(h:Sub n w.2):trB w z (gM (bsS w.1 z) n)=alB z (gM (bsS w.1 z) n):=by
 have d:=nF c.a f;have i:=d.join e;unfold bsB at g;rw[dk]at g;have k:=uf (z:=z) c.a f;have l:=(mj d c.b).1 g.1;unfold trB;rw[Pf λx j m=>(mj (f x j) i).2 ((wO c.a f x j m).trans (vK d e)),(mj c.a i).2 (k.trans (vK d e)),(mj i c.b).2 (MB d e l h),wd,wd]
theorem Jm(z:Zs)(s:List Nat)(l:List (List Nat))(n:List Nat):jX z s (l++[n])=if sIn n s then 1 else if(alB z (gM s n)&&decide (jX z s l=2))then 3 else jX z s l:=by
 unfold jX;rw[HG,HG];simp only[List.any_cons,List.any_nil,Bool.or_false];cases h1:sIn n s<;>cases h2:l.any (λn=>sIn n s)<;>cases h3:alB z (gM s n)<;>cases h4:l.any (λn=>alB z (gM s n))<;>rfl
theorem zb(g:IsW w){n:List Nat}(ho:IsS o)(j:¬o=s0)(k:n∈dZ w o):Sub n w.2:=by
 obtain⟨p,i,rfl⟩:=AY.1 (List.mem_filter.1 k).1;have d:=pH i;obtain⟨t,l,x,y,z,r,e,f⟩:=(wX g.b ho j).1 i;intro c h;rw[Bg d g.a,dk]at h;exact(mj d g.b).1 f c h.1
def YU(t:List Nat)(p:Pb):Nat:=if sIn p.cells t then 1 else 2
variable{lo:Nat}{h:Heap}{v:Value}
theorem OwS.Ib{h':Heap}{l:List (List Nat)}(q:OwS lo h v l)(d:h.next<=h'.next)(a:∀z,vB v z->h'.get z=h.get z):OwS lo h' v l:=by
 rcases q with q|⟨b,c,t,h1,h2,h3,rfl,h4⟩
 ·exact .inl q
 ·exact .inr ⟨b,c,t,h1,by omega,(a b ⟨_,_,rfl⟩).trans h3,rfl,h4⟩
theorem On(f:IsW w)(d g c b v:Value)(e:cellsOf v=[v]):dy (quL w d g c b) (0+17) (cellsOf v)=quL w d v c b:=by
 have a:=jj f;rw[e];unfold quL;rw[fQ (by rw[eA,a];simp),j3,List.take_append,dn (by omega),a,List.drop_append,wc (by simp;omega),a];simp
variable{n sz:Nat}{cs:List Value}
theorem Ip{p m c:Nat}(s:Own lo h sz (sh p m c) n cs):h.get p=some (.cells cs true sz):=by
 cases s with
 |full h1 h2 h3=>exact h3
theorem Iq(s:Own lo h 1 v n cs):cs.length=n:=by
 cases s with
 |nil=>rfl
 |full h1 h2 h3 h4=>omega
theorem N1(s:Own lo h sz v n cs)(a:0<n):nQ v=false:=by
 cases s with
 |nil=>omega
 |full=>rfl
structure Tg (T:Nat->Option an):Prop where
 nd:Ds T
 f201:T 61=some f201
variable{os:List (List Nat)}
theorem QV(F:Tg T)(hr:Rdy h)(hg:Tab h)(h2:0<h.next){q:Nat}(dE:2<q)(M:IsW w){B ov y:Value}(gq:h.get q=some (qt (quL w B (.slice none 0 0) ov y)))(so:SsQ h ov os)(dC:os.length<1000000)
 (cX:∀b o m c,ov= .slice (some ⟨b,o,none⟩) m c->b<q):
 Gs T 61 [sb q] h (λz=>q<=z) λ_ k=>(∀z,z<h.next->z≠q->k.get z=h.get z)/\∃A,k.get q=some (qt (quL w B A ov y))/\NdS k A (os.map (dZ w)):=by
 have hp:=F.nd.pl.fi.ft.li.p;refine .ofK hp F.f201 ?_;obtain⟨a,c,rfl⟩:=so.sl.form;have ar:=hr.wf.dS gq;have ko:=λA=>TE M B A (.slice a os.length c) y;have kn:=λA=>TD M B A (.slice a os.length c) y;have kw:=λA=>Ye M B A (.slice a os.length c) y;have eh:=ic M;have U:=λA v=>On M B A (.slice a os.length c) y v;have db:=λA=>GP M B A (.slice a os.length c) y;have e9:=ko (.slice none 0 0);refine Y9 ?_
 refine bg (λm e ds k=>∃(i:Nat) (v:Value) (d:List Value),i<=os.length/\m=os.length-i/\e=[(0, sb q),(7, .slice a os.length c),(8, zc (os.length:Nat)),(9, zc (i:Nat))]/\ds=[]/\WF k∧h.next<=k.next/\fF q k.log/\(i=0->k=h)/\(0<i->q∈k.log)/\(∀z,z<h.next->z≠q->k.get z=h.get z)/\k.get q=some (qt (quL w B v (.slice a os.length c) y))/\Own h.next k 1 v i d/\eG d=true/\∀j r,((os.take i).map (dZ w))[j]? =some r->∃u,d[j]? =some u/\OwS h.next k u r)
  ⟨0, .slice none 0 0,[],gK _,rfl,rfl,rfl,hr.wf,bl _,by rw[hr.log];exact fF.nil _,λ_=>rfl,λq=>absurd q (ui 0),λ_ _ _=>rfl,gq, .nil,rfl,λj r t=>(by rw[Ok,List.map_nil,List.getElem?_nil]at t;cases t)⟩ ?_
 rintro m e ds G ⟨i,v,d,dv,rfl,rfl,rfl,WG,nG,lG,cd,cf,oG,O,I,aE,S⟩;have bo:G.get 0=h.get 0:=oG 0 h2 (by omega);by_cases hlt:i<os.length
 ·obtain⟨x,hx⟩:∃s,os[i]? =some s:=⟨os[i],a6 hlt⟩;have L:=so.ok x (bz hx);obtain⟨b,o,c3,vs,f0,tt,hv,gl,be,el⟩:=so.elem hx;cases hv;have bj:b≠q:=Nat.ne_of_lt (cX _ _ _ _ rfl);have du:=(oG b be bj).trans gl;have eJ:=aL L.len;have eK:=aV L.len;have eQ:=L.len;have dp:zd i os.length true:=cH (by omega);refine Y9 ?_;refine dw (E0:=[(0, sb q),(3, sb G.next),(7, .slice (some ⟨b,o,none⟩) os.length c),(8, zc (os.length:Nat)),(9, zc (i:Nat))]) (P:=λk=>Ext G k∧k.next=G.next+1/\k.get G.next=some (qt (us x))) ?_ ?_
  ·refine Y4 ?_;refine aF (bB (by rfl) (by rfl) YG (by(simp only[aB];assumption)) (by rfl) (by exact bX _)) ?_;refine bH ?_;refine y1 ?_;exact⟨rfl,rfl,rfl,dX (by omega) _ _,rfl,YG⟩
  rintro Y ⟨V,n2,g2⟩;have Z:=V.wf WG;have a8:=(V.old _ (by omega)).trans O;have ae:Tab Y:=((V.old 0 (by omega)).trans bo).trans hg;have C:=Ra F.nd (h:={Y with log:=[]}) (.of Z) (show Tab Y from ae) (by show 0<Y.next;omega) M L;obtain⟨E,H,rfl⟩:∃a c,v= .slice a i c:=(I.slice (by omega)).form;have eg:=ko (.slice E i H);have dT:=kn (.slice E i H);have eI:=kw (.slice E i H);refine Y12 ?_;refine FW.alD C (λv k m q=>q.log m) ?_;rintro u g N q5;clear C;have q5:OwS Y.next g u (dZ w x):=q5
  have n5:=N.next
  have ba:=(N.old _ (by omega)).trans a8;have dq:=(N.old _ (by omega)).trans g2;refine⟨_,by(repeat apply aC rfl);apply aG rfl (aq rfl (dV (by rfl) (by assumption) (by assumption)) (by exact dG _ _ _)) rfl;apply aG rfl (aq rfl (ez (by rfl)) (by exact di _)) rfl;apply aG rfl (aq rfl (tZ (by rfl)) (by exact di _)) rfl;apply aG rfl (aq rfl (dx (by rfl)) (by exact di _)) rfl;apply aG rfl (aq rfl (dx (by rfl)) (by exact di _)) rfl;exact aQ,?_⟩;obtain⟨W,X,rfl⟩:=q5.form;refine rL rfl rfl rfl (by rfl) (by rfl) (by rfl) (mG (by rfl) (by rfl)) (by refine cm (aq rfl (dV (by rfl) YG (by assumption)) (by exact dG _ _ _)) ?_;refine cm (aq rfl (ez (by rfl)) (by exact di _)) ?_;refine cm (aq rfl (tZ (by rfl)) (by exact di _)) ?_;refine cm (aq rfl (dx (by rfl)) (by exact di _)) ?_;refine cm (aq rfl (dx (by rfl)) (by exact di _)) ?_;exact rD) ?_;have x6:Ext g (g.push (qt [.slice W (dZ w x).length X])):=(Ext.refl g).push _;have Q:∀l a c,(.slice E i H:Value)= sh l a c->h.next<=l∧l<G.next:=λl a c e=>by rw[e]at I;exact Cm I
  have n6:(g.push (qt [.slice W (dZ w x).length X])).next=g.next+1:=rfl
  refine Pq (lo:=q) (n:=i) (cs:=d) (c1:=[.slice W (dZ w x).length X]) ((I.ext (V.trans (N.trans x6))).low (by omega)) (by omega) (by omega) (by omega) rfl rfl rfl (by rfl) (by rfl) (by rfl) (xe (gw (cs:=[.slice W (dZ w x).length X]) (z3 g _) rfl rfl)) rfl rfl aE (by show fF q g.log;rw[N.log,V.log];exact lG) (x6.wf (N.wf Z)) ?_;intro J lg o7 n7 l7 W7 f;have n7:g.next+1<J.next:=n7
  have f:∀z,z<g.next->(∀l a c,(.slice E i H:Value)= sh l a c->z≠l)->J.get z=g.get z:=λz D K=>(f z (by show z<g.next+1;omega) K).trans (z4 D)
  have o7:Own (g.next+1) J 1 (sh (g.next+1) (i+1) UNK) (i+1) (d++[.slice W (dZ w x).length X]):=o7;have a7:J.get q=some (qt (quL w B (.slice E i H) (.slice (some ⟨b,o,none⟩) os.length c) y)):=(f q (by omega) (λl a c e=>by have:=(Q l a c e).1;omega)).trans ba;refine⟨_,by(repeat apply aC rfl);apply aG rfl (aq rfl (dx (by rfl)) (by exact di _)) rfl;exact aQ,?_⟩;have kc:(Nat.beq (bM (cellsOf (sh (g.next+1) (i+1) UNK))) 1&&Nat.ble (0+17+1) (bM (quL w B (.slice E i H) (.slice (some ⟨b,o,none⟩) os.length c) y))&&eG (cellsOf (sh (g.next+1) (i+1) UNK)))=true:=by
   rw[cA (quL w B (.slice E i H) (.slice (some ⟨b,o,none⟩) os.length c) y),db (.slice E i H)];rfl
  have dj:=U (.slice E i H) (sh (g.next+1) (i+1) UNK) rfl;have aw:q<J.next:=by omega
  refine Y2 ?_;refine iO rfl rfl rfl (by rfl) (by rfl) (by rfl) a7 kc dj aw (by(repeat apply aC rfl);exact aQ) ?_;refine Y8 ?_;refine⟨os.length-(i+1),by omega,i+1, sh (g.next+1) (i+1) UNK,d++[.slice W (dZ w x).length X],by omega,rfl,rfl,rfl,W7.as (AS.wr h.next _ _ _),(by show h.next<=J.next;omega),vN l7 (bl q),λe=>(by omega),λ_=>VW ar,λz D K=> ?_,?_,?_,mR aE rfl,λj r t=> ?_⟩
  ·exact(z5 K).trans ((f z (by omega) (λl a c e=>by have:=(Q l a c e).1;omega)).trans ((N.old z (by omega)).trans ((V.old z (by omega)).trans (oG z D K))))
  ·rw[z6,a7];rfl
  ·exact(o7.keep (h':=J.wr h.next q (qt (quL w B (sh (g.next+1) (i+1) UNK) (.slice (some ⟨b,o,none⟩) os.length c) y))) (bl _) λz D _=>z5 (by omega)).low (by omega)
  ·have d9:d.length=i:=by
    have:=I.slice (by omega);exact Iq I
   have am:((os.take i).map (dZ w)).length=i:=by rw[hS,lp];omega
   rw[eD hx,wx]at t;rcases Id j i with hji|hji
   ·rw[hG (by omega)]at t;obtain⟨u',d8,qo⟩:=S j r t;refine⟨u',by rw[hG (by omega)];exact d8,qo.Ib (by show G.next<=J.next;omega) λz D=> ?_⟩;have da:=qo.vb D;refine(z5 (by omega)).trans ((f z (by omega) (λl a c e=> ?_)).trans ((N.old z (by omega)).trans (V.old z (by omega))));rw[e]at I;exact qo.ne (Ip I) z D
   ·obtain rfl:j=i:=by
     have:=(List.getElem?_eq_some_iff.1 t).1;rw[eA,am]at this;simp at this;omega
    rw[gR (by omega),am,xx]at t;simp at t;subst t;refine⟨_,by rw[gR (by omega),d9,xx];rfl,(q5.low (by omega)).Ib (by show g.next<=J.next;omega) λz D=> ?_⟩;have da:=q5.vb D;exact(z5 (by omega)).trans ((f z (by omega) (λl a c e=>by have:=(Q l a c e).2;omega)))
 ·obtain rfl:i=os.length:=by omega
  have dp:zd os.length os.length false:=cS (by omega);rw[hP]at S;have cJ:0<os.length->nQ v=false:=λq=>N1 I q;have cY:=I.slice (by omega);refine Y9 ?_;refine I8 (λz D=>lG z D) ?_ rfl ⟨oG,v,O,d,?_,λj r t=> ?_⟩
  ·rcases Nat.eq_zero_or_pos os.length with q0|q0
   ·exact .inl (cd q0)
   ·exact .inr ⟨q,ar,cf q0,_,_,_,O,Fo (cJ q0) (Fr _ (by simp))⟩
  ·rw[hS];exact cY
  ·obtain⟨u,hu,qu⟩:=S j r t;refine⟨u,hu,qu.ss λs hs=> ?_⟩;have cj:=bz t;obtain⟨x,_,rfl⟩:=List.mem_map.1 cj;exact qS M hs
def sB(w:List Nat×List Nat)(l:List Pb)(os:List (List Nat)):Int:=
 if sIn w.1 w.2=false then 1 else if 6<os.length then 2 else if os.any (λs=>decide (s=s0))=true then 1 else prE l
structure S7 (T:Nat->Option an):Prop where
 ne:KH T
 cp:Ho T
 f141:T 60=some f141
theorem Qv{e:Env}(t:IsW w){k l m n:Operand}{g i j:Value}(h1:ev h e k=some (wV w))(q:ev h e l=some g)(r:ev h e m=some i)(s:ev h e n=some j)(c2:cellsOf g=[g])(o:cellsOf i=[i])(c4:cellsOf j=[j]):
 j6 h e [(.int .u64 0),(.int .u64 0),(.int .u64 0),(.int .u64 0),(.int .u64 0),(.int .u64 0),(.int .u64 0),(.int .u64 0),(.int .u64 0),(.int .u64 0),(.int .u64 0),(.int .u64 0),(.int .u64 0),(.int .u64 0),(.int .u64 0),(.int .u64 0),(.slice none 0 0),(.slice none 0 0),(.slice none 0 0),(.map none)] [(0,16,k),(16,1,l),(18,1,m),(19,1,n)]=some (quL w g (.slice none 0 0) i j):=by
 have f:=jj t;have p:cellsOf (wV w)=wL w:=by show(wL w).toArray.toList=_;simp
 have u:bM (wL w)=16:=by rw[cA,f]
 have x:dy [(.int .u64 0),(.int .u64 0),(.int .u64 0),(.int .u64 0),(.int .u64 0),(.int .u64 0),(.int .u64 0),(.int .u64 0),(.int .u64 0),(.int .u64 0),(.int .u64 0),(.int .u64 0),(.int .u64 0),(.int .u64 0),(.int .u64 0),(.int .u64 0),(.slice none 0 0),(.slice none 0 0),(.slice none 0 0),(.map none)] 0 (wL w)=wL w++[.slice none 0 0, .slice none 0 0, .slice none 0 0, .map none]:=by
  rw[fQ (by rw[f];decide),f];rfl
 have y:dy (wL w++[.slice none 0 0, .slice none 0 0, .slice none 0 0, .map none]) 16 [g]=wL w++[g, .slice none 0 0, .slice none 0 0, .map none]:=by
  rw[fQ (by rw[eA,f];simp),hX (by omega),dn (by omega),List.drop_append,wc (by simp;omega),f];simp
 have z:dy (wL w++[g, .slice none 0 0, .slice none 0 0, .map none]) 18 [i]=wL w++[g, .slice none 0 0,i, .map none]:=by
  rw[fQ (by rw[eA,f];simp),List.take_append,dn (by omega),List.drop_append,wc (by simp;omega),f];simp
 have A:dy (wL w++[g, .slice none 0 0,i, .map none]) 19 [j]=wL w++[g, .slice none 0 0,i,j]:=by
  rw[fQ (by rw[eA,f];simp),List.take_append,dn (by omega),List.drop_append,wc (by simp;omega),f];simp
 have v:∀a b c d:Value,bM (wL w++[a,b,c,d])=20:=λa b c d=>by rw[cA,eA,f];rfl
 simp only[j6,h1,q,r,s,p,c2,o,c4,u,v,x,y,z,A];rfl
theorem I4(l:List Value):cellsOf (.agg l.toArray)=l:=by show l.toArray.toList=_;simp
def YN(h:Heap)(w:List Nat×List Nat)(pv ov:Value)(e:Int)(v:Value)(h':Heap):Prop:=
 (e≠0/\v= .tuple #[.pointer none, zc e])∨(e=0/\∃q m,v= .tuple #[sb q, zc 0]/\h.next<=m/\m<q/\q<h'.next/\h'.get q=some (qt (quL w pv (.slice none 0 0) ov (.map (some m))))/\h'.get m=some (.map []))
theorem Lo(F:S7 T)(hr:Rdy h)(j:IsW w){x u:Value}{l:List Pb}(z:PbS h x l)(C:l.length<1000000)(y:SsQ h u os)(n:os.length<1000000):
 Al T 60 [wV w,x,u] h (YN h w x u (sB w l os)):=by
 have o:=F.cp.p;refine .of o F.f141 hr ?_ ?_
 ·rintro v L E (q|⟨_,q,m,rfl,_⟩)
  ·exact .inl q
  ·cases E
 obtain⟨a,c,rfl⟩:=z.form;obtain⟨A,B,rfl⟩:=y.sl.form;have t:cellsOf (wV w)=wL w:=by show(wL w).toArray.toList=_;simp
 have k:Ext h (h.push (qt (cellsOf (wV w)))):=(Ext.refl h).push _;have K:(h.push (qt (cellsOf (wV w)))).get h.next=some (qt (wL w)):=by rw[t];exact z3 h _
 have M:(h.push (qt (cellsOf (wV w)))).next=h.next+1:=rfl
 refine Y5 ?_;generalize(h.push (qt (cellsOf (wV w))))=H at*;have W:=k.wf hr.wf;have f:=k.log.trans hr.log;have N:=jR j;have J:=ic j;have b:=VV F.ne (h:={H with log:=[]}) (.of W) j;have d:=vU o F.ne.nd.f196 F.ne.nd.f257 (h:={H with log:=[]}) (.of W) ((y.ext k).log []) n (g:=55) (cap:=[]) (λs=>decide (s=s0)) λs D=>HL o F.cp.f90 (.of W) (y.ok s D);have i:=Qj F.cp (h:={H with log:=[]}) (.of W) ((z.ext k).log []) C;unfold sB;cases hin:sIn w.1 w.2 with
 |false=>
  rw[hin]at b;rw[if_pos rfl];refine Y4 ?_;refine FW.pu b ?_;refine Y9 ?_;exact dN f rfl (.inl ⟨by decide,rfl⟩)
 |true=>
 rw[hin]at b;rw[if_neg (by simp)];by_cases h6:6<os.length
 ·have G:zs os.length 6 true:=dY (by omega);rw[if_pos h6];refine Y4 ?_;refine FW.pu b ?_;refine Y18 ?_;exact dN f rfl (.inl ⟨by decide,rfl⟩)
 have G:zs os.length 6 false:=fu (by omega);rw[if_neg h6];cases ha:os.any (λs=>decide (s=s0))with
 |true=>
  rw[ha]at d;rw[if_pos rfl];refine Y4 ?_;refine FW.pu b ?_;refine Y18 ?_;refine FW.pu d ?_;refine Y8 ?_;exact dN f rfl (.inl ⟨by decide,rfl⟩)
 |false=>
 rw[ha]at d;rw[if_neg (by simp)];by_cases he:prE l=0
 ·rw[he]at i⊢;have I:zB 0 0 false:=rfl;refine Y4 ?_;refine FW.pu b ?_;refine Y18 ?_;refine FW.pu d ?_;refine Y8 ?_;refine FW.pu i ?_;clear b d i;refine Y13 ?_;refine aF wK ?_;refine aF (oO (Qv j (by rfl) (by rfl) (by rfl) (by rfl) rfl rfl rfl)) ?_;have r:=I4 (quL w (.slice a l.length c) (.slice none 0 0) (.slice A os.length B) (.map (some H.next)));refine Y5 ?_;refine dN f rfl (.inr ⟨rfl,_,_,rfl,?_,ec _,ec _,?_,?_⟩)
  ·show h.next<=H.next;omega
  ·rw[r];exact z3 _ _
  ·exact(z4 (ec _)).trans (z3 _ _)
 ·have I:zB (prE l) 0 true:=jr he;generalize prE l=e at*;refine Y4 ?_;refine FW.pu b ?_;refine Y18 ?_;refine FW.pu d ?_;refine Y8 ?_;refine FW.pu i ?_;refine Y14 ?_;exact dN f rfl (.inl ⟨he,rfl⟩)
end Go.A.Pk
end
