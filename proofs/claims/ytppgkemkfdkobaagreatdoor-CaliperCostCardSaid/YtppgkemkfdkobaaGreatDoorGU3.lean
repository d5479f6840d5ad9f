/- Walks of functions, plain laws, the table. -/
import Derived.Test.YtppgkemkfdkobaaGreatDoorGU2
import Derived.Test.YtppgkemkfdkobaaGreatDoorGU1
import Derived.Test.YtppgkemkfdkobaaGreatDoorGF
import Derived.Shelf.SlSortCmp.NoneTotal
import Derived.Test.YtppgkemkfdkobaaGreatDoorProg
import Derived.Test.YtppgkemkfdkobaaGreatDoorGH
import Derived.KernelRfl
import Derived.Test.YtppgkemkfdkobaaGreatDoorGD
set_option linter.all false
set_option maxHeartbeats 16000000
set_option maxRecDepth 100000
section
namespace Go.A.Pk
variable {T:Nat->Option aq}
inductive OwE (lo:Nat) (h:Heap) (sz:Nat):Value->Nat->List Value->Prop
 |own {v n cs}:Own lo h sz v n cs->OwE lo h sz v n cs
 |lit {b}:lo<=b->b<h.next->h.get b=some (.cells [] true sz)->OwE lo h sz (.slice (some ⟨b,0,none⟩) 0 0) 0 []
def OwE.keep{lo sz n:Nat}{h h':Heap}{v:Value}{cs:List Value}(s:OwE lo h sz v n cs)(b:h.next<=h'.next)(a:∀z,lo<=z->z<h.next->h'.get z=h.get z):OwE lo h' sz v n cs:=by
 cases s with
 |own s=>exact .own (s.keep b a)
 |lit h1 h2 h3=>exact .lit h1 ω ((a _ h1 h2).trans h3)
def OwE.ext{lo sz n:Nat}{h h':Heap}{v:Value}{cs:List Value}(s:OwE lo h sz v n cs)(x:Ext h h'):OwE lo h' sz v n cs:=s.keep x.next λz _ a=>x.old z a
section
variable {base:Nat} {rnd:Option Nat} {Q:XQ} {e:Env} {ds:Dfs} {h:Heap} {dst:Option Nat} {os:List bg} {x y:Operand} {v u:Value} {lo sz n i:Nat} {cs:List Value} {k:IntKind}
def Cm(a:ev h e x=some (.slice none 0 0))(b:ev h e y=some (.int k ((0:Nat):Int))):aop h base e (.slice (.sl sz) x (some y) none none)=some (.val (.slice none 0 0) h):=by
 simp only[aop,a,hM,rN b,rM];rfl
def Qx(s:Own lo h sz v n cs)(hi:i<=n)(b:ev h e x=some v)(c:ev h e y=some (.int k (i:Nat)))
 (a:∀u,dg h sz u=some (cs.take (i*sz),i)->WO T base rnd Q os (cN e dst u) ds h):WO T base rnd Q (⟨dst, .slice (.sl sz) x none (some y) none,none⟩::os) e ds h:=by
 cases s with
 |nil=>
  obtain rfl:i=0:=ω
  refine aG (GB b (rN c)) (a _ ?_);simp[dg]
 |full h1 h2 h3 h4 h5=>
  refine aG (ue b c h3 hi ω) (a _ ?_);exact fA h3 (by rw[aT,ww,bw]) (by rw[lp,h4,FX (LT _ hi)])
def Qy(s:Own lo h sz v n cs)(hi:i<=n)(b:ev h e x=some v)(c:ev h e y=some (.int k (i:Nat)))
 (a:∀u h',dg h' sz u=some (cs.drop (i*sz),n-i)->Ext h h'→WO T base rnd Q os (cN e dst u) ds h'):WO T base rnd Q (⟨dst, .slice (.sl sz) x (some y) none none,none⟩::os) e ds h:=by
 cases s with
 |nil=>
  obtain rfl:i=0:=ω
  refine aG (Cm b c) (a _ _ ?_ (.refl h));simp[dg]
 |full h1 h2 h3 h4 h5=>
  rcases Hk i n with hlt|hge
  ·refine aG (qj b c h3 hlt) (a _ _ ?_ (.refl h));have d:(cs.drop (i*sz)).length=(n-i)*sz:=by rw[Kd,h4,Nat.sub_mul]
   exact fA h3 (by rw[aT,hF,bw,go ω]) d
  ·obtain rfl:i=n:=ω
   refine aG (Es b c h3 h5) (a _ _ ?_ ((Ext.refl h).push _));rw[xi ω,J0];exact fA (z3 h _) (by simp[bw]) (by simp)
variable{a:Nat}
def wO{b:Nat}(hb:h.get b=some (.cells [] true sz))(f:b<h.next)(j:lo<=b)(p:n<1000000)(g:a<=100000)(m:ev h e x=some (sh b 0 0))(o:ev h e y=some u)(l:dg h sz u=some (cs,n))(i:cs.length=n*sz)
 (k:∀v' h',OwE lo h' sz v' n cs->Ext h h'→WO T base rnd Q os (cN e dst v') ds h'):WO T base rnd Q (⟨dst, .append sz a x y,none⟩::os) e ds h:=by
 by_cases h0:n=0
 ·subst h0;obtain rfl:cs=[]:=List.length_eq_zero_iff.1 ω;exact aG (qg m o l (bl _)) (k _ _ (.lit j f hb) (.refl h))
 ·have d:(2*(0+n)+768)*a<=281474976710656:=by
   have:(2*(0+n)+768)*a<=2000768*100000:=Hn ω g;omega
  refine aG (qf (len:=0) (c:=0) (ws:=cs) m o l h0 ω (by decide) hb (by simp) d (by simp[bw,dS])) ?_;refine k _ _ (.own ?_) ((Ext.refl h).push _);rw[hF];exact .full ω (eA _) (z3 _ _) i h0
def Qu{c1:List Value}(s:OwE lo h sz v n cs)(q:n<1000000)(k:0<sz)(g:a<=100000)(f:lo<=h.next)(d:base<=lo)
 (o:ev h e x=some v)(p:ev h e y=some u)(m:dg h sz u=some (c1,1))(i:c1.length=sz)(h1:eN c1=true)
 (l:∀v' h',Own lo h' sz v' (n+1) (cs++c1)->Lx lo h h'→WO T base rnd Q os (cN e dst v') ds h'):WO T base rnd Q (⟨dst, .append sz a x y,none⟩::os) e ds h:=by
 cases s with
 |own s=>exact vM s q k g f d o p m i h1 l
 | @lit b q1 q2 q3=>
   have j:(2*(0+1)+768)*a<=281474976710656:=by
    have:(2*(0+1)+768)*a<=770*100000:=Hn ω g;omega
   refine aG (qf (len:=0) (c:=0) (n:=1) (ws:=c1) o p m ω ω (by decide) q3 (by simp) j (by simp[bw,dS])) ?_;refine l _ _ ?_ ((Lx.refl lo h).push f _);exact .full f (eA _) (z3 _ _) (by simp[i]) ω
def TT{m:Nat}{c2:List Value}(s:Own lo h sz v n cs)(p:n≠0)(r:n+m<1000000)(i:0<sz)(f:a<=100000)(b:lo<=h.next)(c:base<=lo)
 (l:ev h e x=some v)(o:ev h e y=some u)(k:dg h sz u=some (c2,m))(g:c2.length=m*sz)(h1:eN c2=true)
 (j:∀v' h',Own lo h' sz v' (n+m) (cs++c2)->Lx lo h h'→WO T base rnd Q os (cN e dst v') ds h'):WO T base rnd Q (⟨dst, .append sz a x y,none⟩::os) e ds h:=by
 have d:(2*(n+m)+768)*a<=281474976710656:=by
  have:(2*(n+m)+768)*a<=2000768*100000:=Hn ω f;omega
 cases s with
 |nil=>exact absurd rfl p
 | @full q _ _ q1 q2 q3 q4 q5=>
   by_cases hm:m=0
   ·subst hm;obtain rfl:c2=[]:=List.length_eq_zero_iff.1 ω;refine aG (qg l o k (by unfold UNK;omega)) (j _ _ ?_ (.refl lo h));rw[wl];exact .full q1 q2 q3 q4 q5
   ·refine aG (jc (n:=m) (vs:=cs) (ws:=cs++c2) l o k hm q3 q4 i h1 d (dS _ _)) ?_;refine j _ _ ?_ (((Lx.refl lo h).wr q1 ω).push b _);exact .full b (eA _) (z3 _ _) (by rw[dk,q4,g,Bo]) ω
end
end Go.A.Pk
end
section
namespace Go.A.Pk
variable {T:Nat->Option aq}
def Qv{base:Nat}{rnd:Option Nat}{Q:XQ}{e:Env}{k:Dfs}{h:Heap}{lo sz a n:Nat}{dst:Option Nat}{os:List bg}{x y:Operand}{v u:Value}{cs c1:List Value}(s:Own lo h sz v n cs)(A:n<1000000)(j:0<sz)(hb:a<=100000)
 (r:ev h e x=some v)(t:ev h e y=some u)(p:dg h sz u=some (c1,1))(g:c1.length=sz)(h1:eN c1=true)
 (l:∀h',Own h.next h' sz (sh h.next (n+1) UNK) (n+1) (cs++c1)->h'.next=h.next+1->(∀z∈h'.log,lo<=z∨z∈h.log)->(WF h->WF h')->(∀z,z<h.next->(∀m c,v≠ sh z m c)->h'.get z=h.get z)->WO T base rnd Q os (cN e dst (sh h.next (n+1) UNK)) k h'):
 WO T base rnd Q (⟨dst, .append sz a x y,none⟩::os) e k h:=by
 have f:(2*(n+1)+768)*a<=281474976710656:=by
  have:(2*(n+1)+768)*a<=2000768*100000:=Hn ω hb;omega
 cases s with
 |nil=>
  refine aG (pF (n:=1) r t p ω (by simpa using f) rfl) ?_;exact l _ (Own.full (lo:=h.next) (h:=h.push (.cells c1 true sz)) (sz:=sz) (q:=h.next) (n:=1) (cs:=c1) (bl _) (eA _) (z3 _ _) ω ω) rfl (λz d=> .inr d) (λw=>w.push _) (λz d _=>z4 d)
 | @full q _ _ q1 q2 q3 q4 q5=>
   refine aG (jc (n:=1) (vs:=cs) (ws:=cs++c1) r t p ω q3 q4 j h1 f (dS _ _)) ?_;exact l _ (.full (bl _) (eA _) (z3 _ _) (by rw[dk,q4,g,Bo,ab5]) ω) rfl (λz d=>by
    rcases dW (b:=q) (o:= .dead) d with rfl|d
    ·exact .inl q1
    ·exact .inr d) (λw=>(w.as (AS.wr base _ q .dead)).push _) (λz d i=>(z4 (by exact d)).trans (z5 (λe=>i n UNK (by subst e;rfl))))
section
open I
def Bf:aZ:=I.R [g 8 (.new (aL 8 (.int .u64 0))),S 8 8 16] [6,8]
def Bg:aZ:= .block 1 (I.R [L 17 6,N 18 8 8,g 19 (.dy (aL 8 (.int .u64 0)) 1 [(0,8,(t 18))]),g 20 (.append 8 64 (t 17) (t 19)),S 1 6 20] [])
end
variable{lo:Nat}{v:Value}
def FM(hp:aK T){H:Heap}(hr:Rdy H){q l lo2:Nat}{P:Value}{ss:List (List Nat)}{f:Fi}(g:IsS f.s)(hm:ss.length<1000000)(E:lo<=q)
 (gl:H.get l=some (.loop [(6, sb q),(14,P)] [15,16] Bf Bg 0 .normal))
 (k:H.get q=some (qt [v]))(own:Own lo2 H 8 v ss.length (ssL ss))(t:lo<=lo2)(aw:q<lo2)(ar:l<lo2)(ae:lo2<=H.next):
 FW T (.yield l) (fiV f) H λr b=>r= .ret (.bool true)/\(∀z∈b.log,lo<=z)/\q∈b.log/\∃p,b.get q=some (qt [sh p (ss.length+1) UNK])/\H.next<=p/\Own lo2 b 8 (sh p (ss.length+1) UNK) (ss++[f.s]).length (ssL (ss++[f.s]))/\(∀z,z<H.next->z≠q->(∀m c,v≠ sh z m c)->b.get z=H.get z)/\WF b∧H.next<=b.next/\p<b.next:=by
 have y:q≠l:=λe=>by subst e;rw[k]at gl;cases gl
 have Q:=hr.wf.dJ k;have kl:=hr.wf.dJ gl;have G:∀m c,v≠ sh l m c:=λm c e=>by
  rw[e]at own;generalize hn:ss.length=n at own;generalize ssL ss=cs at own;cases own with
  |full B=>omega
 have I:∀m c,v≠ sh q m c:=λm c e=>by
  rw[e]at own;generalize hn:ss.length=n at own;generalize ssL ss=cs at own;cases own with
  |full B=>omega
 refine FW.QS hp (q:=q) (R:=λb=>∃p,b.get q=some (qt [sh p (ss.length+1) UNK])/\H.next<=p/\Own lo2 b 8 (sh p (ss.length+1) UNK) (ss++[f.s]).length (ssL (ss++[f.s]))/\(∀z,z<H.next->z≠q->(∀m c,v≠ sh z m c)->b.get z=H.get z)/\WF b∧H.next<=b.next/\p<b.next) gl rfl kl Q y ?_;have k8:=aN g.len;have k9:=aU g.len;have aE:=g.len;unfold Bf;refine Y2 ?_;refine aG (bH ρ ρ YG (by(simp only[aF];assumption)) ρ (by exact bZ _)) ?_;refine bA ?_;refine y1 ?_;refine⟨rfl,YG,?_⟩;unfold Bg;refine oe ?_;refine WE.E4 ?_;intro a d;have A:∀z,z<H.next->z≠l->H.get z=a.get z:=λz i u=>by rw[d];symm;simp(disch:=first|omega|(simp only[z1,z2];omega))only[z5,z4]
 have M:a.get H.next=some (qt (us f.s)):=by rw[d];(simp(disch:=first|omega|(simp only[z1,z2];omega))only[z3,z4,z5,z6,z7,z1,z2,gl,k];done)
 have L:a.get l=some (.loop [(6, sb q),(14,P)] [15,16] Bf Bg 1 .normal):=by rw[d];(simp(disch:=first|omega|(simp only[z1,z2];omega))only[z3,z4,z5,z6,z7,z1,z2,gl,k,M];exact rfl)
 have A5:a.next=H.next+1:=by rw[d];rfl
 have U:a.log=[]:=by rw[d];simp(disch:=first|omega|(simp only[z1,z2];omega))only[Heap.aA,Heap.zH];exact hr.log
 have V:WF a:=by rw[d];exact(((hr.wf.push _).as (AS.wr _ _ _ _)).as (AS.wr _ _ _ _))
 clear d;have N:=(A q Q y).symm.trans k;have F:ssL [f.s]=us f.s:=by simp[ssL]
 have x:Own lo2 a 8 v ss.length (ssL ss):=own.keep ω λz i J=>(A z J ω).symm;clear k;refine Y3 ?_;refine aG (kA (CB g ρ) (show bS (aL 8 (Value.int IntKind.u64 0))=8 from rfl)) ?_;refine Qv (lo:=lo2) (c1:=us f.s) (x.ext ((Ext.refl a).push _)) hm ω ω ρ ρ (fA (cs:=us f.s) YG k9 (by rw[aF,g.len])) (by rw[aF,g.len]) (bZ _) ?_;intro j h S K w3 w;have h:Own (H.next+2) j 8 (sh (H.next+2) (ss.length+1) UNK) (ss.length+1) (ssL ss++us f.s):=by
  have e:(a.push (.cells (us f.s) true 8)).next=H.next+2:=by show a.next+1=_;omega
  rw[←e];exact h
 have S:j.next=H.next+3:=by rw[S];show a.next+1+1=_;omega
 have K:∀z∈j.log,lo2<=z:=λz i=>(K z i).elim id λe=>by
  have e:z∈a.log:=e;rw[U]at e;cases e
 have w:∀z,z<H.next+1->(∀m c,v≠ sh z m c)->j.get z=a.get z:=λz i u=>(w z (by show z<a.next+1;omega) u).trans (z4 ω)
 have X:WF j:=w3 (V.push _);have Y:∀o,(a.push o).next=H.next+2:=λo=>by show a.next+1=_;omega
 rw[Y];have O:=(w q ω I).trans N;have W:=(w l ω G).trans L;have C:ssL (ss++[f.s])=ssL ss++us f.s:=by rw[qY,F]
 have D:(ss++[f.s]).length=ss.length+1:=by simp
 clear N M L;refine yS ?_;refine bA ?_;refine Y2 ?_;refine⟨rfl,⟨_,YG,rfl⟩,λz i=> ?_,rB ω,⟨_,_,_,Heap.aM O,rfl⟩,H.next+2,(z5 y).trans (Heap.aM O),ω,?_,λz i B Z=> ?_,?_,?_,?_⟩
 ·rcases dW i with rfl|i
  ·exact E
  ·exact gy t (K z i)
 ·rw[C,D];exact Own.low (lo:=H.next+2) (Own.keep h (bl _) λz i _=>(z5 ω).trans (z5 ω)) ω
 ·by_cases hl:z=l
  ·subst hl;rw[gl];exact Heap.aM ((z5 (Ne.symm y)).trans W)
  ·exact(z5 hl).trans ((z5 B).trans ((w z ω Z).trans (A z ω hl).symm))
 ·exact(X.as (AS.wr _ _ _ _)).as (AS.wr _ _ _ _)
 ·show H.next<=j.next
  omega
 ·show H.next+2<j.next
  omega
def xX{a b:List Nat}{f:Fi}(h:f∈jC a b):IsS f.s/\∃t x y z,f.s=mR (dY b t) (cA (dY b t)).1 x y z:=by
 unfold jC at h;split at h
 ·cases h
 ·obtain⟨t,_,h⟩:=List.mem_flatMap.1 h;unfold rW J2 zh wg xQ at h;obtain⟨z,_,h⟩:=List.mem_flatMap.1 h;obtain⟨y,_,h⟩:=List.mem_flatMap.1 h;obtain⟨x,_,h⟩:=List.mem_flatMap.1 h;split at h
  ·rw[List.mem_singleton.1 h];exact⟨pP (nY b t) _ _ _ _,t,x,y,z,rfl⟩
  ·cases h
structure PPl (l q:Nat) (H0:Heap) (L:bT) (done:List Fi) (H:Heap):Prop where
 old:∀z,z<l->z≠q->H.get z=H0.get z
 loop:H.get l=some L
 nx:l<H.next
 val:∃v,H.get q=some (qt [v])/\Own (l+1) H 8 v (done.map (·.s)).length (ssL (done.map (·.s)))
 few:done.length<=100000
def wPl(q:Nat)(H:Heap)(z:Nat):Prop:=z=q∨∃m c,H.get q=some (qt [sh z m c])
def PPl.fS{l q:Nat}{d:Heap}{L:bT}(n:q<l)(done:List Fi)(H a:Heap)(p:PPl l q d L done H)(e:H.next<=a.next)(h:∀x,x<H.next->a.get x=H.get x):PPl l q d L done a:=by
 obtain⟨f,g,i,⟨v,j,k⟩,m⟩:=p;exact⟨λz c b=>(h z ω).trans (f z c b),(h l i).trans g,ω,⟨v,(h q ω).trans j,k.keep e λz _ c=>h z c⟩,m⟩
variable{h:Heap}
def Dg{sz n:Nat}{p m c:Nat}{cs:List Value}(s:Own lo h sz (sh p m c) n cs):lo<=p/\p<h.next:=by
 cases s with
 |full h1 h2=>exact⟨h1,h2⟩
def IV(j:T 102=some (.mW (sM 137 103))){k:Nat}(r:k=137∨k=103){l:List (List Nat)}(s:OwS lo h v l)(f:∀x∈l,IsS x)(u:l.length<1000000):
 Gs T 102 [v, .func (.func k) #[] #[]] h (vB v) (λ_ h'=>OwS lo h' v (fH l)):=by
 have a:=lR l;have i:J4 137 103 (.func (.func k) #[] #[])=true:=by
  rcases r with rfl|rfl<;>rfl
 rcases s with⟨rfl,rfl⟩|⟨b,c,tl,h1,h2,h3,rfl,h4,h5⟩
 ·have e:fH []=[]:=List.length_eq_zero_iff.1 a;rw[e];refine⟨.ret (.tuple #[]),h,⟨1,λn y=> ?_⟩,⟨bl _,λz d=> .inl d,λ_ _ _=>rfl,id⟩, .tuple #[],rfl, .inl ⟨rfl,rfl⟩⟩;obtain⟨A,rfl⟩:∃k,n=k+1:=⟨n-1,ω⟩;simp only[jM,j,sM,i,cond_true]
 ·have m:(J4 137 103 (.func (.func k) #[] #[])&&(Nat.beq 0 0&&Nat.blt l.length 1000000))=true:=by rw[i,gW u];rfl
  have o:=F9 (t:=tl) f;have p:bQ (l.length*8) (ssL l++tl)=tl:=by rw[aT,←fP f,List.drop_left]
  refine⟨.ret (.tuple #[]),h.wr h.next b (.cells (ssL (fH l)++tl) true 8),⟨1,λn y=> ?_⟩,?_, .tuple #[],rfl, .inr ⟨b,c,tl,h1,h2,?_,by rw[a],ω,λq=>h5 λB=>q (by rw[B];exact List.length_eq_zero_iff.1 (lR []))⟩⟩
  ·obtain⟨A,rfl⟩:∃k,n=k+1:=⟨n-1,ω⟩;simp only[jM,j,sM,h3,m,cond_true,o,p]
  ·refine⟨bl _,λz d=> ?_,λz d g=> ?_,λw=>w.as (AS.wr h.next _ _ _)⟩
   ·rcases dW d with rfl|d
    ·exact .inr ⟨_,_,rfl⟩
    ·exact .inl d
   ·exact z5 (λe=>g (by rw[e];exact⟨_,_,rfl⟩))
  ·show(h.wr h.next b (.cells (ssL (fH l)++tl) true 8)).get b=_;rw[z6,h3];rfl
structure LI (T:Nat->Option aq):Prop where
 fi:Ud T
 f72:T 101=some f72
 f167:T 136=some f167
 f189:T 102=some (.mW (sM 137 103))
 f192:T 105=some f192
def K6(F:LI T)(hr:Rdy h)(u:h.next≥lo){l:List (List Nat)}(s:OwS lo h v l)(a:∀x∈l,IsS x)(k:l.length<1000000):
 Gs T 136 [v, .func (.func 137) #[] #[]] h (vB v) (λv c=>OwS lo c v (ddS (fH l))):=by
 have n:=F.fi.ft.li.p;refine .of n F.f167 (λv G H A w t y=>OwS.flat A y) ?_;have g:=IV F.f189 (.inl rfl) (h:=η h) (s.log []) a k;refine Y7 ?_;refine FW.gs g (λv c m q=>q.log m) ?_;rintro _ j o C;clear g;have b:∀x∈fH l,IsS x:=λx B=>a x (iA.1 B);have i:=yR n F.f192 (h:=η j) (.of (o.wf hr.wf)) (C.log []) b (by rw[lR];exact k);refine Y4 ?_;refine FW.gs i (λv c m q=>q.log m) ?_;rintro I r E D;clear i;have e:∀z∈j.log,vB v z:=λz d=>(o.log z d).elim (λq=>by rw[hr.log]at q;cases q) id;have f:∀z∈r.log,vB v z:=λz d=>(E.log z d).elim (λq=>e z q) id;refine Y3 ?_;exact iO f rfl D
def mO(a b:List Nat):List (List Nat):=if b=s0 then []else ddS (fH ((jC a b).map (·.s)))
variable{s:List Nat}
def qD{a b:List Nat}(h:s∈mO a b):IsS s:=by
 unfold mO at h;split at h
 ·cases h
 ·obtain⟨f,c,rfl⟩:=List.mem_map.1 (iA.1 (qq h));exact(xX c).1
def T8(lo:Int)(n:Nat):(zrN lo n).length=n:=by unfold zrN;simp
def u6{α β:Type}{f:α->List β}{k:Nat}:∀{l:List α},(∀x∈l,(f x).length<=k)->(l.flatMap f).length<=l.length*k
 |[],_=>by simp
 |x::l,h=>by
  have h1:=h x b7;have b:=u6 λy a=>h y (bz x a);rw[List.flatMap_cons,dk,tb,Bo];omega
def Bt(a b:List Nat):(jC a b).length<=98304:=by
 have c:∀{lo hi:Int}, -7<=lo->hi<=7->(zr lo hi).length<=16:=λ{lo hi} w A=>by
  unfold zr;rw[T8];omega
 have l:=iG a;unfold jC;split
 ·simp
 ·refine gy (u6 (k:=4096) λt _=> ?_) (by simp);have g:=iG (dY b t);obtain⟨⟨⟨B,C⟩,⟨D,E⟩,⟨F,G⟩⟩,⟨⟨H,I⟩,⟨J,h⟩,⟨i,j⟩⟩⟩:=l;obtain⟨⟨⟨m,n⟩,⟨o,p⟩,⟨q,r⟩⟩,⟨⟨s,u⟩,⟨v,d⟩,⟨e,f⟩⟩⟩:=g;unfold rW J2;refine gy (u6 (k:=256) λz _=> ?_) (by have:=c (lo:=(cA a).1.lo.z-(cA (dY b t)).1.lo.z) (hi:=(cA a).1.hi.z-(cA (dY b t)).1.hi.z) ω ω;omega);unfold zh;refine gy (u6 (k:=16) λy _=> ?_) (by have:=c (lo:=(cA a).1.lo.y-(cA (dY b t)).1.lo.y) (hi:=(cA a).1.hi.y-(cA (dY b t)).1.hi.y) ω ω;omega);unfold wg;refine gy (u6 (k:=1) λx _=> ?_) (by have:=c (lo:=(cA a).1.lo.x-(cA (dY b t)).1.lo.x) (hi:=(cA a).1.hi.x-(cA (dY b t)).1.hi.x) ω ω;omega);unfold xQ;split<;>simp
def vA(a b:List Nat):(mO a b).length<=98304:=by
 unfold mO;split
 ·simp
 ·refine gy (Cw _) ?_;rw[lR,j3];exact Bt a b
def SP(b:List Nat):Int:=if b=s0 then 1 else 0
def OX(F:LI T)(hr:Rdy h)(hg:Tab h)(h2:0<h.next){a b:List Nat}(K:IsS a)(hb:IsS b):
 Al T 101 [sv a,sv b] h λv J=>∃u,v= .tuple #[u, zc (SP b)]/\OwS h.next J u (mO a b):=by
 have hp:=F.fi.ft.li.p;refine .of hp F.f72 hr ?_ ?_
 ·rintro v Q hv ⟨u,rfl,q⟩;have hu:dA u=true:=by
   have e:dA (.tuple #[u, zc (SP b)])=jf [u, zc (SP b)]:=rfl;rw[e]at hv;simp only[jf,cond_eq_ite,Bool.if_false_right,gk]at hv;have V:flat u=true:=of_decide_eq_true hv.1;unfold dA;split
   ·rename_i cs;rcases q with⟨Q,_⟩|⟨_,_,_,_,_,_,Q,_⟩<;>cases Q
   ·exact V
  exact⟨u,rfl,OwS.flat hu q⟩
 have bo:=aN K.len;have cd:=aU K.len;have cj:=aN hb.len;have cJ:=aU hb.len;have x0:Ext h ((h.push (qt (cellsOf (sv a)))).push (qt (cellsOf (sv b)))):=((Ext.refl h).push _).push _;have gA:((h.push (qt (cellsOf (sv a)))).push (qt (cellsOf (sv b)))).get h.next=some (qt (us a)):=YG
 have gB:((h.push (qt (cellsOf (sv a)))).push (qt (cellsOf (sv b)))).get (h.next+1)=some (qt (us b)):=YG;have n0:((h.push (qt (cellsOf (sv a)))).push (qt (cellsOf (sv b)))).next=h.next+2:=rfl
 refine Y6 ?_;generalize((h.push (qt (cellsOf (sv a)))).push (qt (cellsOf (sv b))))=H at*;have W:=x0.wf hr.wf;have hL:=x0.log.trans hr.log;have bj:=Bt a b;unfold mO SP;by_cases he:b=s0
 ·rw[if_pos he,if_pos he];refine Y4 ?_;refine aG (jK (b:=s0) ρ ρ hb.len rfl) ?_;rw[decide_eq_true he];refine Y8 ?_;exact cW hL rfl ⟨_,rfl, .inl ⟨rfl,rfl⟩⟩
 rw[if_neg he,if_neg he];refine Y4 ?_;refine aG (jK (b:=s0) ρ ρ hb.len rfl) ?_;rw[decide_eq_false he];have x1:Ext H (H.push (qt [.slice none 0 0])):=(Ext.refl H).push _;have q6:(H.push (qt [.slice none 0 0])).get H.next=some (qt [.slice none 0 0]):=z3 _ _
 have n1:(H.push (qt [.slice none 0 0])).next=H.next+1:=rfl
 refine Y7 ?_;generalize(H.push (qt [.slice none 0 0]))=H1 at*;have j:=x0.trans x1;have W1:=j.wf hr.wf;have be:=j.log.trans hr.log;have M:=(x1.old _ ω).trans gA;have O:=(x1.old _ ω).trans gB;have C:=RG F.fi (h:=η H1) (.of W1) K hb;clear gA gB;refine Y5 ?_;refine FW.al C (λv J m q=>q) ?_;rintro _ i x2 ⟨y,A,rfl,ga,gb,aw,aE,na,nb⟩;clear C;have na:H1.next<=y:=na
 have nb:H1.next<=A:=nb
 have k:=j.trans x2;have W2:=k.wf hr.wf;have U:=k.log.trans hr.log;have n2:=x2.next
 have L:=(x2.old _ ω).trans q6;have X:Tab i:=hg.ext k h2;clear M O q6;refine Y2 ?_;refine Lo (lo:=H.next) (P:=PPl i.next H.next i (.loop [(6, sb H.next),(14,fnF y A)] [15,16] Bf Bg 0 .normal) (jC a b)) rfl ρ (by rw[F.fi.ft.f209];rfl) ω ω U W2 ?_ (λH p=>⟨_,_,_,_,p.loop⟩) ?_
 ·have Y:JJ T H.next (i.next+1) i.next H.next fiV (jC a b) (PPl i.next H.next i (.loop [(6, sb H.next),(14,fnF y A)] [15,16] Bf Bg 0 .normal)) (wPl H.next):=by
   refine⟨ω,λdone f Hh hx o ar hN n=> ?_,PPl.fS ω,λdone B ba p Z hs z g=> ?_,λdone B z p g=> ?_⟩
   ·obtain⟨I,w,p3,⟨v,r,t⟩,L⟩:=n;refine FW.mono' (FM hp ar (lo:=H.next) (lo2:=i.next+1) (ss:=done.map (·.s)) (xX hx).1 (by rw[j3];omega) (bl _) w r t ω ω ω hN) ?_;rintro r' B ⟨r1,r2,r3,p,r4,r5,r6,r7,r8,r9,cX⟩;have G:∀z,z<i.next+1->∀m c,v≠ sh z m c:=λz g m c e=>by
     rw[e]at t;have:=(Dg t).1;omega
    refine⟨r1,r2,r3,⟨_,_,_,r4,rfl⟩,⟨λz g E=>(r7 z ω E (G z ω)).trans (I z g E),(r7 _ ω ω (G _ ω)).trans w,ω,⟨_,r4,by rw[A1];exact r6⟩,by rw[dk];show done.length+1<=_;omega⟩,λz g Z=>r7 z g (λe=>Z (.inl e)) λm c e=>Z (.inr ⟨m,c,by rw[←e];exact r⟩),λz g=> ?_⟩;rcases g with rfl|⟨m,c,g⟩
    ·exact .inl (.inl rfl)
    ·rw[r4]at g;cases g;exact .inr r5
   ·obtain⟨I,w,p3,⟨v,r,t⟩,L⟩:=p;rcases g with rfl|⟨m,c,g⟩
    ·exact .inl rfl
    ·exact .inr ⟨m,c,by rw[←hs _ ω];exact g⟩
   ·obtain⟨I,w,p3,⟨v,r,t⟩,L⟩:=p;rcases g with rfl|⟨m,c,g⟩
    ·omega
    ·rw[r]at g;cases g;exact(Dg t).2
  exact MZ F.fi.ft (.of (W2.push (.loop [(6, sb H.next),(14,fnF y A)] [15,16] Bf Bg 0 .normal))) (qa:=y) (qb:=A) (l:=i.next) (N:=i.next+1) (lo:=H.next) K hb (bl _) (by show H.next<=i.next+1;omega) ω Y (λd B n=>(n.old _ aw ω).trans ga) (λd B n=>(n.old _ aE ω).trans gb) (λd B n=>(n.old 0 ω ω).trans X)
   ⟨λz g _=>z4 ω,z3 _ _,eA _,⟨_,(z4 ω).trans L, .nil⟩,hK _⟩
 intro h4 S k1 k2 k3 k4 k5 k6 n;obtain⟨I,w,p3,⟨v,r,t⟩,p7⟩:=n;have D:=(k5 H.next ω).trans r;have ow:=t.keep (h':=S) ω λz g _=>k5 z ω;have ae:∀x∈(jC a b).map (·.s),IsS x:=λx hx=>by
  obtain⟨f,V,rfl⟩:=List.mem_map.1 hx;exact(xX V).1
 have o:((jC a b).map (·.s)).length<1000000:=by rw[j3];omega
 generalize(jC a b).map (·.s)=l at*;have os:=Pk.Own.owS ow ω;have C:=K6 F (h:=η S) (.of k2) (lo:=i.next+1) (by show i.next+1<=S.next;omega) (os.log []) ae o;clear r I w;refine Y5 ?_;refine FW.gs0 C (λv J m q=>q.log m) (λz g=>by have:=(os.vb g).1;omega) ?_;rintro v6 H6 n6 l6 o6 w6 s6;clear C;refine Y4 ?_;exact cW (l6.trans k1) rfl ⟨_,rfl,s6.low ω⟩
structure El (T:Nat->Option aq):Prop where
 pl:LI T
 f35:T 53=some f35
 f92:T 62=some f92
 f121:T 94=some f121
 f124:T 55=some f124
 f193:T 106=some f193
 f194:T 107=some f194
 f195:T 108=some f195
 f196:T 109=some f196
 f197:T 110=some f197
 f257:T 141=some f257
def oy(r:List (List Nat))(x:List Nat):Bool:=r.any λy=> !decide (y=x)&&sIn y x
def oz(w:List Nat×List Nat)(o:List Nat):List (List Nat):=ddS (fH ((mO w.2 o).map λp=>eX p w.1))
def cE(w:List Nat×List Nat)(o:List Nat):List (List Nat):=(oz w o).filter λx=> !oy (oz w o) x
variable{w:List Nat×List Nat}{o:List Nat}
def vr(c:IsW w)(h:s∈oz w o):IsS s:=by
 obtain⟨p,b,rfl⟩:=List.mem_map.1 (iA.1 (qq h));exact(qD b).less c.a
def wv(w:List Nat×List Nat)(o:List Nat):(oz w o).length<=98304:=by
 refine gy (Cw _) ?_;rw[lR,j3];exact vA _ _
variable{x:List Nat}
def ON(F:El T)(hr:Rdy h){q:Nat}{y:List Nat}(a:IsS x)(c:IsS y)(g:h.get q=some (qt (us x))):Pu T 110 [sv y, sb q] h (.bool (!decide (y=x)&&sIn y x)):=by
 have f:=F.pl.fi.ft.li.p;refine .of f F.f197 hr rfl ?_;have i:=hr.wf.dJ g;have j:=aN a.len;have k:=aU a.len;have l:=aN c.len;have m:=aU c.len;have d:Ext h (h.push (qt (cellsOf (sv y)))):=(Ext.refl h).push _;have n:(h.push (qt (cellsOf (sv y)))).get h.next=some (qt (us y)):=YG
 have r:(h.push (qt (cellsOf (sv y)))).next=h.next+1:=rfl
 refine Y4 ?_;generalize(h.push (qt (cellsOf (sv y))))=H at*;have W:=d.wf hr.wf;have e:=d.log.trans hr.log;have o:=(d.old _ i).trans g;have C:=GW f F.f35 F.f121 (h:=η H) (.of W) c a;by_cases he:y=x
 ·rw[decide_eq_true he];refine Y3 ?_;refine aG (jK (b:=x) ρ ρ c.len a.len) ?_;rw[decide_eq_true he];refine Y8 ?_;exact an e rfl rfl
 ·rw[decide_eq_false he];refine Y3 ?_;refine aG (jK (b:=x) ρ ρ c.len a.len) ?_;rw[decide_eq_false he];refine Y7 ?_;refine FW.pu C ?_;clear C;refine Y4 ?_;exact an e rfl rfl
def Sd(F:El T)(hr:Rdy h){q:Nat}{r:List (List Nat)}(s:SsQ h v r)(i:r.length<1000000)(j:IsS x)(g:h.get q=some (qt [v])):Pu T 108 [sv x, sb q] h (.bool (oy r x)):=by
 have d:=F.pl.fi.ft.li.p;refine .of d F.f195 hr rfl ?_;have l:=hr.wf.dJ g;have b:Ext h (h.push (qt (cellsOf (sv x)))):=(Ext.refl h).push _;have e:(h.push (qt (cellsOf (sv x)))).get h.next=some (qt (us x)):=YG
 have n:(h.push (qt (cellsOf (sv x)))).next=h.next+1:=rfl
 refine Y4 ?_;generalize(h.push (qt (cellsOf (sv x))))=H at*;have W:=b.wf hr.wf;have f:=b.log.trans hr.log;have m:=(b.old _ l).trans g;obtain⟨a,c,rfl⟩:=s.sl.form;have C:=wX d F.f196 F.f257 (h:=η H) (.of W) ((s.ext b).log []) i (g:=110) (cap:=[sb h.next]) (λy=> !decide (y=x)&&sIn y x) λy k=>ON F (h:=η H) (.of W) j (s.ok y k) e;unfold oy;refine Y4 ?_;refine FW.pu C ?_;clear C;refine Y3 ?_;exact an f rfl rfl
def AY{l:List (List Nat)}{i:Nat}(f:List Nat->List Nat)(hi:l[i]? =some x):((l.take i).map f++l.drop i).set i (f x)=(l.take (i+1)).map f++l.drop (i+1):=by
 obtain⟨a,c⟩:=List.getElem?_eq_some_iff.1 hi;have b:((l.take i).map f).length=i:=by rw[j3,lp];omega
 rw[Ix a,List.set_append_right _ _ (Nat.le_of_eq b),b,J0,List.set_cons_zero,eY hi,A1,At];rfl
def Ft{l:List (List Nat)}{i:Nat}(f:List Nat->List Nat)(hi:l[i]? =some x):((l.take i).map f++l.drop i)[i]? =some x:=by
 have a:=(List.getElem?_eq_some_iff.1 hi).1;rw[hX (by simp;omega),wn,j3,lp,FX ω,J0,R0,hi]
def OwS.wr{base p:Nat}{l:List (List Nat)}{ob:bT}(q:OwS lo h v l)(a:∀z,vB v z->z≠p):OwS lo (h.wr base p ob) v l:=by
 rcases q with q|⟨b,c,t,h1,h2,h3,rfl,h4⟩
 ·exact .inl q
 ·exact .inr ⟨b,c,t,h1,h2,(z5 (a b ⟨_,_,rfl⟩)).trans h3,rfl,h4⟩
variable{vs:List Value}
def OwS.ne{p:Nat}{l:List (List Nat)}{own:Bool}(q:OwS lo h v l)(g:h.get p=some (.cells vs own 1)):∀z,vB v z->z≠p:=by
 rintro z ⟨m,c,a⟩ rfl;rcases q with⟨rfl,_⟩|⟨b,c',t,h1,h2,h3,rfl,h4⟩
 ·cases a
 ·cases a;rw[g]at h3;cases h3
def Sg(F:El T)(hr:Rdy h)(hg:Tab h)(h2:0<h.next)(n:IsW w)(ho:IsS o):Al T 62 [wV w,sv o] h λv h'=>OwS h.next h' v (cE w o):=by
 have D:=F.pl.fi.ft.li.p;refine .of D F.f92 hr (λv h1 hv q=>OwS.flat hv q) ?_;have dj:cellsOf (wV w)=wL w:=by show(wL w).toArray.toList=_;simp
 have g0:((h.push (qt (cellsOf (wV w)))).push (qt (cellsOf (sv o)))).get h.next=some (qt (wL w)):=by rw[dj];exact(z4 (eA _)).trans (z3 h _)
 have g1:((h.push (qt (cellsOf (wV w)))).push (qt (cellsOf (sv o)))).get (h.next+1)=some (qt (us o)):=z3 _ _;have n0:((h.push (qt (cellsOf (wV w)))).push (qt (cellsOf (sv o)))).next=h.next+2:=rfl
 have x0:Ext h ((h.push (qt (cellsOf (wV w)))).push (qt (cellsOf (sv o)))):=((Ext.refl h).push _).push _;refine Y5 ?_;generalize((h.push (qt (cellsOf (wV w)))).push (qt (cellsOf (sv o))))=H at*;have W:=x0.wf hr.wf;have hL:=x0.log.trans hr.log;have wk:=ja n;have eq:=gu n;have wa:=D8 n;have wb:=D9 n;have eg:=aN n.a.len;have eh:=aN n.b.len;have k8:=aN ho.len;have k9:=aU ho.len;have C1:=OX F.pl (h:=η H) (.of W) (show Tab H from hg.ext x0 h2) (by show 0<H.next;omega) n.b ho;have j:∀x∈mO w.2 o,IsS x:=λx A=>qD A;have d9:=vA w.2 o;have hA:oz w o=ddS (fH ((mO w.2 o).map λp=>eX p w.1)):=rfl;have dv:=wv w o;have s:∀x∈oz w o,IsS x:=λx A=>vr n A;unfold cE;generalize oz w o=r at*;generalize mO w.2 o=l at*;refine Y5 ?_;refine FW.al C1 (λv h' m q=>q) ?_;rintro _ d x1 ⟨u,rfl,Q⟩;have Q:OwS H.next d u l:=Q
 clear C1;have cj:=x0.trans x1;have n1:=x1.next
 have X:=(x1.old _ ω).trans g0;have x2:=ff (h:=d) (base:=h.next) ω (qt [.slice none 0 0]) (qt [u]);have g5:=iW (h:=d) (base:=h.next) [.slice none 0 0] [u];have n2:((d.push (qt [.slice none 0 0])).wr h.next d.next (qt [u])).next=d.next+1:=rfl
 obtain⟨a,c,rfl⟩:=Q.form;clear g0 g1;refine Y7 ?_;refine WE.E4 ?_;intro S ar;have e2:S=((d.push (qt [.slice none 0 0])).wr h.next d.next (qt [.slice a l.length c])):=ar;rw[←e2]at x2 g5 n2;clear ar e2;have V:=cj.trans x2;have W2:=V.wf hr.wf;have aE:=V.log.trans hr.log;have Y:=(x2.old _ ω).trans X;have q2:=Q.ext x2;refine cQ (E0:=[(2, sb h.next),(5, sb d.next),(16, zc (l.length:Nat)),(17, zc (l.length:Nat)),(18, .bool false)]) (P:=λh'=>WF h'∧h'.log=[]/\S.next<=h'.next/\(∀z,z<H.next->h'.get z=S.get z)/\h'.get d.next=some (qt [.slice a l.length c])/\OwS H.next h' (.slice a l.length c) (l.map λp=>eX p w.1)) ?_ ?_
 ·rcases q2 with⟨hv,rfl⟩|⟨b,c',tl,hb1,hb2,hb3,hv,hcl,hcu⟩
  ·cases hv;refine Y6 ?_;refine aY (λmm e ds h'=>0=mm/\e=[(2, sb h.next),(5, sb d.next),(16, zc 0),(17, zc 0)]/\ds=[]/\S=h') ⟨rfl,rfl,rfl,rfl⟩ ?_;rintro mm e ds _ ⟨rfl,rfl,rfl,rfl⟩;refine Y9 ?_;exact⟨rfl,rfl,rfl,W2,aE,bl _,λ_ _=>rfl,g5, .inl ⟨rfl,rfl⟩⟩
  ·cases hv;have dC:b<d.next:=(Q.vb ⟨_,_,rfl⟩).2
   refine Y6 ?_
   refine aY (λmm e ds h'=>∃i:Nat,i<=l.length/\l.length-i=mm/\e=[(2, sb h.next),(5, sb d.next),(16, zc (l.length:Nat)),(17, zc (i:Nat))]/\ds=[]/\WF h'∧h'.log=[]/\S.next=h'.next/\(∀z,z≠b->h'.get z=S.get z)/\h'.get b=some (.cells (ssL ((l.take i).map (λp=>eX p w.1)++l.drop i)++tl) true 8))
    ⟨0,hK _,rfl,rfl,rfl,W2,aE,rfl,λ_ _=>rfl,hb3⟩ ?_
   rintro mm e ds H3 ⟨i,hi,rfl,rfl,rfl,w3,l3,n3,U,gb⟩;have B:=(U d.next ω).trans g5;have cJ:=(U h.next ω).trans Y;by_cases hlt:i<l.length
   ·obtain⟨x,A⟩:∃x,l[i]? =some x:=⟨l[i],bx hlt⟩;have N:=j x (ci A);have f:∀y∈(l.take i).map (λp=>eX p w.1)++l.drop i,IsS y:=λy O=>by
     rcases List.mem_append.1 O with O|O
     ·obtain⟨p,D,rfl⟩:=List.mem_map.1 O;exact(j p (yn D)).less n.a
     ·exact j y (List.mem_of_mem_drop O)
    have dT:((l.take i).map (λp=>eX p w.1)++l.drop i).length=l.length:=by
     rw[dk,j3,lp,Kd];omega
    have rx:=qZ (t:=tl) f (Ft _ A);have bo:=AY (λp=>eX p w.1) A;have be:=N.less n.a;have C:=RX D F.f124 (h:=η H3) (.of w3) N n.a;have kc:=DT (t:=tl) f be (i:=i) ω;have kw:dP (ssL ((l.take i).map (λp=>eX p w.1)++l.drop i)++tl) (0+i*8) (cellsOf (sv (eX x w.1)))=ssL ((l.take (i+1)).map (λp=>eX p w.1)++l.drop (i+1))++tl:=by
     have e:cellsOf (sv (eX x w.1))=us (eX x w.1):=by show(us (eX x w.1)).toArray.toList=_;simp
     rw[e,DS f be ω,bo]
    have kx:=aN N.len;have dp:zd i l.length true:=dz ω;generalize eX x w.1=lx at*;generalize(l.take i).map (λp=>eX p w.1)++l.drop i=m at*;obtain rfl:=hcu (λq=>by rw[q]at hlt;simp at hlt);refine Y23 ?_;refine FW.puD C (by(repeat apply aB rfl);apply au rfl (ah rfl (dM ρ) (by exact dh _ _)) rfl;apply au rfl (ah rfl (cw ρ τ ρ) (by exact dw _ _ _)) rfl;exact aQ) ?_;clear C;refine qI ?_;refine iB rfl rfl rfl ρ ρ ρ gb kc kw ω (by(repeat apply aB rfl);exact aQ) ?_;refine Y8 ?_;exact⟨l.length-(i+1),ω,i+1,ω,rfl,rfl,rfl,w3.as (AS.wr h.next _ _ _),(Heap.aA ω).trans l3,n3,λz k=>(z5 k).trans (U z k),by rw[z6,gb];rfl⟩
   ·obtain rfl:i=l.length:=ω
    have dp:zd l.length l.length false:=dG ω;rw[wd,List.drop_length,wl]at gb;refine Y9 ?_;refine⟨rfl,rfl,rfl,w3,l3,ω,λz k=>U z ω,B, .inr ⟨b,c,tl,hb1,ω,gb,by rw[j3],by rw[j3];exact hcl,λq=>hcu λq2=>q (by rw[q2];rfl)⟩⟩
 have cd:∀z,vB (.slice a l.length c) z->H.next<=z/\z<d.next:=λz k=>Q.vb k
 rintro H3 ⟨w3,l3,n3,U,B,q3⟩;clear q2 Q g5 X;have cJ:=(U _ ω).trans Y;have f:∀y∈l.map (λp=>eX p w.1),IsS y:=λy O=>by
  obtain⟨p,D,rfl⟩:=List.mem_map.1 O;exact(j p D).less n.a
 have dE:(l.map λp=>eX p w.1).length=l.length:=j3 _;generalize hll:l.map (λp=>eX p w.1)=lm at*;have I:lm.length<1000000:=ω
 have C2:=IV F.pl.f189 (.inr rfl) (h:=η H3) (q3.log []) f I;refine Y3 ?_;refine FW.gs0 C2 (λv h' m q=>q.log m) (λz k=>by have:=(q3.vb k).1;omega) ?_;rintro v4 H4 n4 l4 o4 w4 q4;clear C2;have W4:=w4 w3;have Z:=(o4 d.next ω (λq=>by have:=(cd _ q).2;omega)).trans B;have bj:∀x∈fH lm,IsS x:=λx A=>f x (iA.1 A);have C3:=yR D F.pl.f192 (h:=η H4) (.of W4) (q4.log []) bj (by rw[lR];exact I);rw[←hA]at C3;refine Y4 ?_;refine FW.gs0 C3 (λv h' m q=>q.log m) (λz k=>by have:=(q4.vb k).1;omega) ?_;rintro v5 K n5 l5 o5 w5 q5;clear C3;have W5:=w5 W4;have cX:=l5.trans (l4.trans l3);have L:=(o5 d.next ω (λq=>by have:=(cd _ q).2;omega)).trans Z;have du:=q5.ne L;obtain⟨E,G,rfl⟩:=q5.form;have e9:d.next<K.next:=ω
 have q6:=q5.wr (base:=h.next) (ob:= qt [.slice E r.length G]) du;have ae:(K.wr h.next d.next (qt [.slice E r.length G])).get d.next=some (qt [.slice E r.length G]):=by rw[z6,L];rfl
 have W6:WF (K.wr h.next d.next (qt [.slice E r.length G])):=W5.as (AS.wr h.next _ _ _);have ba:(K.wr h.next d.next (qt [.slice E r.length G])).log=[]:=(Heap.aA ω).trans cX;have n6:(K.wr h.next d.next (qt [.slice E r.length G])).next=K.next:=rfl
 clear q5 q4 q3 Z B;refine Y2 ?_;clear L;refine WE.E4 ?_;intro H6 aw;have e6:H6=K.wr h.next d.next (qt [.slice E r.length G]):=aw
 rw[←e6]at q6 ae W6 ba n6;clear aw e6;have M:r.length<1000000:=ω
 have C4:=MB D F.f194 (h:=η H6) (.of W6) ((q6.ss s).log []) M;refine Y3 ?_;refine FW.al C4 (λv h' m q=>q.log m) ?_;rintro v7 H7 x7 q7;have q7:OwS H6.next H7 v7 r:=q7
 clear C4;have W7:=x7.wf W6;have cY:=x7.log.trans ba;have n7:=x7.next
 have C5:=JY D F.f193 F.f257 (h:=η H7) (.of W7) (lo:=H6.next) (q7.log []) s M (g:=108) (cap:=[sb d.next]) (oy r) λh' w da J x A=>
  Sd F (h:={h' with log:=[]}) (.of w) (q:=d.next) (v:= .slice E r.length G) ((OwS.ss (q6.keep (h':=h') (by have:H7.next<=h'.next:=da;omega) λz _ k=>(J z k).trans (x7.old z k)) s).log []) M A ((J _ ω).trans ((x7.old _ ω).trans ae))
 refine Y2 ?_;refine FW.gs0 C5 (λv h' m q=>q.log m) (λz k=>by have:=(q7.vb k).1;omega) ?_;rintro v8 H8 n8 l8 o8 w8 q8;clear C5;refine Y3 ?_;exact cW (l8.trans cY) rfl (q8.low ω)
def nQ(w:List Nat×List Nat):Bool:=decide (64<((ij w.2:Nat):Int)-((ij w.1:Nat):Int))
def ME(s:List Nat):ij s<=512:=jd s 512
structure LG (T:Nat->Option aq):Prop where
 nd:El T
 f22:T 19=some f22
 f89:T 58=some f89
 f90:T 59=some f90
 f91:T 61=some f91
def Xk(F:LG T)(hr:Rdy h)(c:IsW w):Pu T 58 [wV w] h (.bool (sIn w.1 w.2)):=by
 have e:=F.nd.pl.fi.ft.li.p;refine .of e F.f89 hr rfl ?_;have d:cellsOf (wV w)=wL w:=by show(wL w).toArray.toList=_;simp
 have j:(h.push (qt (cellsOf (wV w)))).get h.next=some (qt (wL w)):=by rw[d];exact z3 h _
 have W:WF (h.push (qt (cellsOf (wV w)))):=hr.wf.push _;have f:(h.push (qt (cellsOf (wV w)))).log=[]:=hr.log;refine Y4 ?_;generalize(h.push (qt (cellsOf (wV w))))=H at*;have C:=GW e F.nd.f35 F.nd.f121 (h:=η H) (.of W) c.a c.b;have k:=D8 c;have l:=D9 c;have g:=aN c.a.len;have i:=aN c.b.len;refine Y6 ?_;refine FW.pu C ?_;refine Y3 ?_;exact an f rfl rfl
def Vu(F:LG T)(hr:Rdy h)(c:IsW w):Pu T 61 [wV w] h (.bool (nQ w)):=by
 have j:=F.nd.pl.fi.ft.li.p;refine .of j F.f91 hr rfl ?_;have e:cellsOf (wV w)=wL w:=by show(wL w).toArray.toList=_;simp
 have o:(h.push (qt (cellsOf (wV w)))).get h.next=some (qt (wL w)):=by rw[e];exact z3 h _
 have W:WF (h.push (qt (cellsOf (wV w)))):=hr.wf.push _;have i:(h.push (qt (cellsOf (wV w)))).log=[]:=hr.log;refine Y4 ?_;generalize(h.push (qt (cellsOf (wV w))))=H at*;have f:=uW F.nd.pl.fi.ft.co (h:=η H) (.of W) c.b;have g:=uW F.nd.pl.fi.ft.co (h:=η H) (.of W) c.a;have t:=D8 c;have u:=D9 c;have k:=aN c.a.len;have l:=aN c.b.len;have m:=ME w.1;have n:=ME w.2;have r:vi ((ij w.2:Nat):Int) ((ij w.1:Nat):Int) (((ij w.2:Nat):Int)-((ij w.1:Nat):Int)):=jD (aO ω ω);have s:af .gtr (zc (((ij w.2:Nat):Int)-((ij w.1:Nat):Int))) (zc 64)=some (.bool (nQ w)):=by
  unfold nQ;by_cases q:64<((ij w.2:Nat):Int)-((ij w.1:Nat):Int)
  ·rw[decide_eq_true q];exact fh q
  ·rw[decide_eq_false q];exact gT ω
 generalize((ij w.2:Nat):Int)-((ij w.1:Nat):Int)=d at*;refine Y7 ?_;refine FW.puD f (by apply au rfl (ah rfl (bW ρ τ τ τ) (by exact sZ _)) rfl;apply au rfl (ah rfl (dL ρ) (by exact bh _)) rfl;(repeat apply aB rfl);exact aQ) ?_;clear f;skip;refine qC ?_;refine FW.puD g (by(repeat apply aB rfl);exact aQ) ?_;clear g;refine Y7 ?_;exact an i rfl rfl
structure Pb where
 cells:List Nat
 cost:Int
def pbL(p:Pb):List Value:=us p.cells++[zc p.cost]
def pbV(p:Pb):Value:= .agg (pbL p).toArray
def Dh(l:List Pb):List Value:=l.flatMap pbL
variable{p:Pb}
def lQ(h:IsS p.cells):(pbL p).length=9:=by simp[pbL,aF,h.len]
def FK(h:IsS p.cells):bN (pbL p) (0+8)=some (zc p.cost):=by
 rw[cC];show(us p.cells++[Value.int .i64 p.cost])[8]? =_;rw[hX (by rw[aF,h.len];omega),aF,h.len];rfl
def tJ(h:IsS p.cells):cm 8 (bQ (0+0) (pbL p))=us p.cells:=by
 rw[bw,aT];show(us p.cells++[Value.int .i64 p.cost]).take 8=_;rw[q9 (by rw[aF,h.len];omega),go (by rw[aF,h.len];omega)]
def zZ(h:IsS p.cells):Nat.beq (bS (pbL p)) 9=true:=by rw[cK,lQ h];rfl
def FL(p:Pb):eN (pbL p)=true:=nT (bZ _) rfl
def OV:∀{l:List Pb} {i:Nat} {p:Pb},(∀p∈l,IsS p.cells)->l[i]? =some p->((Dh l).drop (i*9)).take 9=pbL p
 |[],i,p,_,h=>by simp at h
 |q::l,0,p,hl,h=>by
  simp at h;subst h;have e:Dh (q::l)=pbL q++Dh l:=rfl;have:=lQ (hl q b7);rw[e,I0,ww,q9 ω,go ω]
 |q::l,i+1,p,hl,h=>by
  have e:Dh (q::l)=pbL q++Dh l:=rfl;have b:=lQ (hl q b7);have a:(pbL q++Dh l).drop 9=Dh l:=by rw[←b];exact List.drop_left
  rw[e,show(i+1)*9=9+i*9 by omega,←List.drop_drop,a];exact OV (λs c=>hl s (bz _ c)) (by simpa using h)
structure UN (vs:List Value) (o:Nat) (p:Pb):Prop where
 all:cm 9 (bQ o vs)=pbL p
 cells:cm 8 (bQ (o+0) vs)=us p.cells
 cost:bN vs (o+8)=some (zc p.cost)
def UN.mk'{o:Nat}(a:IsS p.cells)(h:(vs.drop o).take 9=pbL p):UN vs o p:=by
 refine⟨by rw[bw,aT];exact h,?_,?_⟩
 ·have:=tJ a;rw[←this,bw,aT,bw,aT,←h,ab7,Co,ab8];rfl
 ·have:=FK a;rw[←this,cC,cC,←h,wi ω,wn,hF]
structure PbS (h:Heap) (v:Value) (l:List Pb):Prop where
 sl:aH h 9 v l.length (Dh l)
 ok:∀p∈l,IsS p.cells
def PbS.elem{l:List Pb}(s:PbS h v l){i:Nat}(hi:l[i]? =some p):
 ∃b o c d a t,v= .slice (some ⟨b,o,none⟩) l.length c/\h.get b=some (.cells d a t)/\b<h.next/\UN d (o+i*9) p:=by
 have g:=(List.getElem?_eq_some_iff.1 hi).1;rcases aH.inv s.sl with⟨_,_,h0,_⟩|⟨b,o,cap,hv,s1,hc⟩
 ·omega
 ·obtain⟨d,a,t,e,f⟩:=s1.obj;refine⟨b,o,cap,d,a,t,hv,e,s1.lt, .mk' (s.ok p (ci hi)) ?_⟩;rw[←OV s.ok hi,←f];simp only[bw,aT,ab7,ab8,Co];congr 1;omega
def PbS.form{h:Heap}{v:Value}{l:List Pb}(s:PbS h v l):∃a c,v= .slice a l.length c:=s.sl.form
def PbS.ext{h h':Heap}{v:Value}{l:List Pb}(s:PbS h v l)(x:Ext h h'):PbS h' v l:=⟨s.sl.ext x,s.ok⟩
def PbS.log{h:Heap}{v:Value}{l:List Pb}(s:PbS h v l)(m:List Nat):PbS {h with log:=m} v l:=⟨s.sl.log m,s.ok⟩
def kQ(p:Pb):Bool:=decide (p.cells=s0)|| !inR p.cost 1 1000
def prE(l:List Pb):Int:=if 8<l.length then 2 else if l.any kQ then 1 else 0
def zq(P:Pb->Bool):List Pb->Nat->Int
 |[],_=> -1
 |r::l,i=>if P r then(i:Int)else zq P l (i+1)
def J9(P:Pb->Bool){l:List Pb}{i:Nat}{r:Pb}(hi:l[i]? =some r):zq P (l.drop i) i=if P r then(i:Int)else zq P (l.drop (i+1)) (i+1):=by
 obtain⟨a,rfl⟩:=List.getElem?_eq_some_iff.1 hi;rw[Ix a,zq]
def Nk(P:Pb->Bool)(l:List Pb):zq P (l.drop l.length) l.length= -1:=by
 rw[List.drop_length];rfl
def Fa(P:Pb->Bool):∀(l:List Pb) (i:Nat),decide (0<=zq P l i)=l.any P
 |[],_=>rfl
 |r::l,i=>by
  rw[zq,List.any_cons];by_cases h:P r=true
  ·rw[if_pos h,h,Bool.true_or];exact decide_eq_true ω
  ·rw[if_neg h,Fa P l (i+1)];have:P r=false:=by simpa using h
   rw[this,Bool.false_or]
structure Il (T:Nat->Option aq):Prop where
 p:aK T
 f62:T 118=some f62
 f90:T 59=some f90
 f106:T 68=some f106
 f155:T 144=some f155
 f156:T 145=some f156
 f231:T 167=some f231
def UR(F:Il T)(hr:Rdy h)(a:IsS p.cells):Pu T 145 [pbV p] h (.bool (kQ p)):=by
 refine .of F.p F.f156 hr rfl ?_;have b:cellsOf (pbV p)=pbL p:=by show(pbL p).toArray.toList=_;simp
 have e:Ext h (h.push (qt (cellsOf (pbV p)))):=(Ext.refl h).push _;have g:(h.push (qt (cellsOf (pbV p)))).get h.next=some (qt (pbL p)):=by rw[b];exact z3 h _
 refine Y4 ?_;generalize(h.push (qt (cellsOf (pbV p))))=H at*;have W:=e.wf hr.wf;have d:=e.log.trans hr.log;have i:=tJ a;have j:=aN a.len;have k:=FK a;have c:=IL F.p F.f90 (h:=η H) (.of W) a;have f:=YF F.p F.f106 (h:=η H) (.of W) p.cost 1 1000;unfold kQ;generalize decide (p.cells=s0)=b1 at*;generalize inR p.cost 1 1000=b2 at*;cases b1 with
 |true=>
  refine Y4 ?_;refine FW.pu c ?_;refine Y9 ?_;exact an d rfl rfl
 |false=>
  refine Y4 ?_;refine FW.pu c ?_;refine Y7 ?_;refine FW.pu f ?_;refine Y6 ?_;exact an d rfl rfl
def Nr(F:Il T)(hr:Rdy h){l:List Pb}(s:PbS h v l)(C:l.length<1000000){g:Nat}{cap:List Value}(P:Pb->Bool)
 (n:∀r∈l,Pu T g (pbV r::cap) h (.bool (P r))):Pu T 167 [v, .func (.func g) #[] cap.toArray] h (zc (zq P l 0)):=by
 refine .of F.p F.f231 hr rfl ?_;obtain⟨a,c,rfl⟩:=s.form;refine Y10 ?_
 refine aY (λm e ds u=>∃i:Nat,i<=l.length/\m=l.length-i/\e=[(0, .slice a l.length c),(1, .func (.func g) #[] cap.toArray),(7, zc (l.length:Nat)),(8, zc (i:Nat))]/\ds=[]/\h=u∧zq P l 0=zq P (l.drop i) i)
  ⟨0,hK _,rfl,rfl,rfl,rfl,rfl⟩ ?_
 rintro m e ds _ ⟨i,w,rfl,rfl,rfl,rfl,d⟩;by_cases hlt:i<l.length
 ·obtain⟨r,f⟩:∃r,l[i]? =some r:=⟨l[i],bx hlt⟩;have j:=ci f;obtain⟨b,o,z,G,y,t,x,A,B,q⟩:=s.elem f;cases x;have D:=q.all;have E:=zZ (s.ok r j);have H:=n r j;have k:zd i l.length true:=dz ω;rw[J9 P f]at d;refine Y19 ?_;refine oK (yx (all:=pbV r::cap) ρ ρ ρ (by rw[dS,dS];simp[pbV])) ?_;refine FW.pu (by rw[hr.self];exact H) ?_;clear H n;cases hpr:P r with
  |true=>
   rw[hpr,if_pos rfl]at d;rw[d];refine Y12 ?_;exact an hr.log rfl rfl
  |false=>
   rw[hpr,if_neg (by simp)]at d;refine Y9 ?_;exact⟨l.length-(i+1),ω,i+1,ω,rfl,rfl,rfl,rfl,d⟩
 ·obtain rfl:i=l.length:=ω
  have k:zd l.length l.length false:=dG ω;rw[Nk]at d;rw[d];refine Y14 ?_;exact an hr.log rfl rfl
def Rq(F:Il T)(hr:Rdy h){l:List Pb}(s:PbS h v l)(f:l.length<1000000):Pu T 118 [v] h (zc (prE l)):=by
 refine .of F.p F.f62 hr rfl ?_;obtain⟨a,c,rfl⟩:=s.form;have b:=hr.log;unfold prE;by_cases h8:8<l.length
 ·have e:zs l.length 8 true:=fh ω;rw[if_pos h8];refine Y15 ?_;exact an b rfl rfl
 rw[if_neg h8];have e:zs l.length 8 false:=gT ω;have C:Pu T 144 [.slice a l.length c, .func (.func 145) #[] #[]] (η h) (.bool (l.any kQ)):=by
  refine .of F.p F.f155 (.of hr.wf) rfl ?_;have C:=Nr F (h:=η h) (.of hr.wf) (s.log []) f (g:=145) (cap:=[]) kQ λr d=>UR F (.of hr.wf) (s.ok r d);rw[←Fa kQ l 0];generalize zq kQ l 0=z at C⊢;refine Y7 ?_;refine FW.pu C ?_;clear C;have e:af .geq (zc z) (zc 0)=some (.bool (decide (0<=z))):=BB;refine Y4 ?_;exact an rfl rfl rfl
 cases hb:l.any kQ with
 |true=>
  rw[hb]at C;rw[if_pos rfl];refine Y16 ?_;refine FW.pu C ?_;refine Y7 ?_;exact an b rfl rfl
 |false=>
  rw[hb]at C;rw[if_neg (by simp)];refine Y16 ?_;refine FW.pu C ?_;refine Y8 ?_;exact an b rfl rfl
def fL(f:List Nat):List Value:=f.map λk=> .int .u8 (k:Nat)
def fV(f:List Nat):Value:= .agg (fL f).toArray
def gz(f:List Nat):(fL f).length=f.length:=by simp[fL]
def xV:∀f:List Nat,eN (fL f)=true
 |[]=>rfl
 |_::f=>xV f
variable{f:List Nat}
def Cz{i k:Nat}(h:f[i]? =some k):bN (fL f) (0+i*1)=some (.int .u8 (k:Nat)):=by
 rw[cC,hF,xr];simp[fL,h]
def nH(h:f.length=8):cm 8 (bQ 0 (fL f))=fL f:=by
 rw[bw,aT,ww,go (by rw[gz];omega)]
def kJ(h:f.length=8):Nat.beq (bS (fL f)) 8=true:=by rw[cK,gz,h];rfl
def AJ(f:List Nat):jj (.agg (fL f).toArray) (.agg (fL f).toArray)=true:=by
 refine mP ?_;rw[Pi];induction f with
 |nil=>rfl
 |cons p f ih=>exact cD (eT _ _) ih
def BY(w:List Nat×List Nat):jj (.agg (wL w).toArray) (.agg (wL w).toArray)=true:=by
 refine mP ?_;rw[Pi];refine PI _ _ ?_;have:=PI w.2 [] iq
 rwa [wl]at this
def quL(w:List Nat×List Nat)(pv nv ov mv:Value):List Value:=wL w++[pv,nv,ov,mv]
def HO(a:IsW w)(e c d b:Value):(quL w e c d b).length=20:=by
 unfold quL;rw[dk,jB a];rfl
def Zh(a:IsW w)(e c d b:Value):cm 16 (bQ (0+0) (quL w e c d b))=wL w:=by
 have:=jB a;unfold quL;rw[bw,aT,hF,ww,q9 ω,go ω]
def Ze(a:IsW w)(f c d b:Value):cm 8 (bQ (0+0+0) (quL w f c d b))=us w.1:=by
 have h:=jB a;have e:=D8 a;rw[bw,aT,hF,ww]at e;unfold quL;rw[bw,aT,hF,ww,q9 ω];exact e
def Zf(a:IsW w)(f c d b:Value):cm 8 (bQ (0+0+8) (quL w f c d b))=us w.2:=by
 have h:=jB a;have e:=D9 a;rw[bw,aT,hF]at e;unfold quL;rw[bw,aT,hF,Ej ω,q9 (by rw[Kd];omega)];exact e
def DE(e:IsW w)(d b c a:Value)(i:Nat):bN (quL w d b c a) (16+i)=[d,b,c,a][i]? :=by
 have h:=jB e;unfold quL;rw[cC,hX ω,h,ac3]
def xz(e:IsW w)(a c d b:Value):bN (quL w a c d b) (0+16)=some a:=DE e a c d b 0
def UF(e:IsW w)(d a c b:Value):bN (quL w d a c b) (0+17)=some a:=DE e d a c b 1
def UG(e:IsW w)(d c a b:Value):bN (quL w d c a b) (0+18)=some a:=DE e d c a b 2
def Zg(e:IsW w)(d b c a:Value):bN (quL w d b c a) (0+19)=some a:=DE e d b c a 3
abbrev Zs:=List (Pb×Nat)
def alB(z:Zs)(s:List Nat):Bool:=z.all λx=> !(decide (x.2=2)&&sIn x.1.cells s)
def bsJ(s:List Nat)(x:Pb×Nat):List Nat:=if x.2=1 then gZ s x.1.cells else s
def bsS(s:List Nat)(z:Zs):List Nat:=z.foldl bsJ s
def bsB(w:List Nat×List Nat)(z:Zs):Bool:=sIn (bsS w.1 z) w.2&&alB z (bsS w.1 z)
def kE:∀{z:Zs} {s:List Nat},IsS s->(∀x∈z,IsS x.1.cells)->IsS (bsS s z)
 |[],s,hs,_=>hs
 |x::z,s,hs,h=>by
  have hx:=h x b7;refine kE (z:=z) (s:=bsJ s x) ?_ λy a=>h y (bz _ a);unfold bsJ;split
  ·exact hs.join hx
  ·exact hs
def Ik{l:List Pb}{i:Nat}{k:Nat}(b:l[i]? =some p)(a:f[i]? =some k):(l.zip f)[i]? =some (p,k):=List.getElem?_zip_eq_some.2 ⟨b,a⟩
def JF{l:List Pb}(h:l.length<=f.length):(l.zip f).length=l.length:=by rw[List.length_zip];omega
def pz{l:List Pb}(h:∀p∈l,IsS p.cells):∀x∈l.zip f,IsS x.1.cells:=λx a=>h _ (List.of_mem_zip a).1
def JB{z:Zs}{i:Nat}{x:Pb×Nat}(h:z[i]? =some x):z.take (i+1)=z.take i++[x]:=by
 obtain⟨a,rfl⟩:=List.getElem?_eq_some_iff.1 h;exact xa a
structure Iq (T:Nat->Option aq):Prop where
 p:aK T
 f35:T 53=some f35
 f121:T 94=some f121
 f143:T 116=some f143
 f174:T 93=some f174
 f207:T 117=some f207
 f226:T 143=some f226
variable{mv nv ov pv:Value}
def yz(F:Iq T)(hr:Rdy h){q:Nat}(hw:IsW w)(Z:h.get q=some (qt (quL w pv nv ov mv))){l:List Pb}(U:PbS h pv l)(hl:l.length<=8)(hf:f.length=8)(O:IsS s):
 Pu T 143 [sb q,fV f,sv s] h (.bool (alB (l.zip f) s)):=by
 refine .of F.p F.f226 hr rfl ?_;obtain⟨a,c,rfl⟩:=U.form;have N:cellsOf (fV f)=fL f:=by show(fL f).toArray.toList=_;simp
 have L:Ext h ((h.push (qt (cellsOf (fV f)))).push (qt (cellsOf (sv s)))):=((Ext.refl h).push _).push _;have g0:((h.push (qt (cellsOf (fV f)))).push (qt (cellsOf (sv s)))).get h.next=some (qt (fL f)):=by rw[N];exact(z4 (eA _)).trans (z3 h _)
 have g1:((h.push (qt (cellsOf (fV f)))).push (qt (cellsOf (sv s)))).get (h.next+1)=some (qt (us s)):=z3 _ _;have n0:((h.push (qt (cellsOf (fV f)))).push (qt (cellsOf (sv s)))).next=h.next+2:=rfl
 refine Y5 ?_;generalize((h.push (qt (cellsOf (fV f)))).push (qt (cellsOf (sv s))))=H at*;have W:=L.wf hr.wf;have hL:=L.log.trans hr.log;have ae:=(L.old _ (hr.wf.dJ Z)).trans Z;have V:=U.ext L;have kp:=xz hw (.slice a l.length c) nv ov mv;have k8:=aN O.len;have k9:=aU O.len;have Q:=JF (l:=l) (f:=f) ω;refine Y10 ?_
 refine aY (λm e ds B=>∃i:Nat,i<=l.length/\m=l.length-i/\e=[(4, sb h.next),(5, sb (h.next+1)),(12, .slice a l.length c),(13, zc (l.length:Nat)),(14, zc (i:Nat))]/\ds=[]/\Ext H B∧alB ((l.zip f).take i) s=true)
  ⟨0,hK _,rfl,rfl,rfl, .refl H,rfl⟩ ?_
 rintro m e ds G ⟨i,n,rfl,rfl,rfl,x,d⟩;have WG:=x.wf W;have D:=x.log.trans hL;have nG:=x.next
 by_cases hlt:i<l.length
 ·obtain⟨p,v⟩:∃r,l[i]? =some r:=⟨l[i],bx hlt⟩;obtain⟨k,I⟩:∃r,f[i]? =some r:=⟨f[i]' ω,bx _⟩;have g:=U.ok p (ci v);obtain⟨b,o,c2,vs,aw,t,hv,gl,hb,A⟩:=(V.ext x).elem v;cases hv;have k1:=A.all;have k2:=zZ g;have k3:=lQ g;have k4:=FL p;have S:zd i l.length true:=dz ω;have y:=(x.old _ ω).trans g0;have z:=(x.old _ ω).trans g1;have hz:=Ik v I;have j:alB ((l.zip f).take (i+1)) s=(alB ((l.zip f).take i) s&& !(decide (k=2)&&sIn p.cells s)):=by
   unfold alB;rw[JB hz,QQ];simp
  have u:(decide (k=2)&&sIn p.cells s)=true->alB (l.zip f) s=false:=λq=>by
   unfold alB;rw[List.all_eq_false];exact⟨(p,k),ci hz,by rw[q];simp⟩
  refine Y9 ?_;refine cQ (E0:=[(4, sb h.next),(5, sb (h.next+1)),(7, zc (i:Nat)),(8, sb G.next),(12, .slice (some ⟨b,o,none⟩) l.length c),(13, zc (l.length:Nat)),(14, zc (i:Nat))]) (P:=λB=>Ext G B∧B.next=G.next+1/\B.get G.next=some (qt (pbL p))) ?_ ?_
  ·refine Y6 ?_;refine aG (bH ρ ρ YG τ ρ τ) ?_;refine bA ?_;refine y1 ?_;exact⟨rfl,rfl,rfl,ff ω _ _,rfl,iW _ _⟩
  rintro G2 ⟨K,n2,g2⟩;have M:=K.wf WG;have E:=K.log.trans D;have X:=(K.old _ ω).trans y;have Y:=(K.old _ ω).trans z;have kf:=Cz I;have kc:=tJ g;have ar:=aN g.len;have J:=x.trans K;clear y z gl k1 k2 A;have mk:af .eql (.int .u8 (k:Nat)) (.int .u8 2)=some (.bool (decide (k=2))):=tZ (c:=2) rfl;have C:=GW F.p F.f35 F.f121 (h:=η G2) (.of M) g O;cases hk2:decide (k=2)with
  |false=>
   rw[hk2]at mk j;refine Y20 ?_;exact⟨l.length-(i+1),ω,i+1,ω,rfl,rfl,rfl,J,by rw[j,d];rfl⟩
  |true=>
   rw[hk2]at mk j u;cases n:sIn p.cells s with
   |true=>
    rw[n]at C u;rw[u rfl];refine Y14 ?_;refine FW.pu C ?_;refine Y12 ?_;exact an E rfl rfl
   |false=>
    rw[n]at C j;refine Y14 ?_;refine FW.pu C ?_;refine Y10 ?_;exact⟨l.length-(i+1),ω,i+1,ω,rfl,rfl,rfl,J,by rw[j,d];rfl⟩
 ·obtain rfl:i=l.length:=ω
  have S:zd l.length l.length false:=dG ω;rw[←Q,wd]at d;rw[d];refine Y14 ?_;exact an D rfl rfl
def Jy(s:List Nat)(b:Bool):dA (.tuple #[sv s, .bool b])=true:=by
 have q:flat (sv s)=true:=rq s;show jf [sv s, .bool b]=true;simp only[jf,q];rfl
def Rf(F:Iq T)(hr:Rdy h){q:Nat}(y:IsW w)(gq:h.get q=some (qt (quL w pv nv ov mv))){l:List Pb}(sp:PbS h pv l)(hl:l.length<=8)(hf:f.length=8):
 Pu T 116 [sb q,fV f] h (.tuple #[sv (bsS w.1 (l.zip f)), .bool (bsB w (l.zip f))]):=by
 refine .of F.p F.f143 hr (Jy _ _) ?_;obtain⟨a,c,rfl⟩:=sp.form;have cY:cellsOf (fV f)=fL f:=by show(fL f).toArray.toList=_;simp
 have x0:Ext h ((h.push (qt (cellsOf (fV f)))).push (qt (aL 8 (.int .u64 0)))):=((Ext.refl h).push _).push _;have g0:((h.push (qt (cellsOf (fV f)))).push (qt (aL 8 (.int .u64 0)))).get h.next=some (qt (fL f)):=by rw[cY];exact(z4 (eA _)).trans (z3 h _)
 have g1:((h.push (qt (cellsOf (fV f)))).push (qt (aL 8 (.int .u64 0)))).get (h.next+1)=some (qt (us s0)):=z3 _ _;have n0:((h.push (qt (cellsOf (fV f)))).push (qt (aL 8 (.int .u64 0)))).next=h.next+2:=rfl
 refine Y5 ?_;generalize((h.push (qt (cellsOf (fV f)))).push (qt (aL 8 (.int .u64 0))))=H at*;have W:=x0.wf hr.wf;have hL:=x0.log.trans hr.log;have E:=(x0.old _ (hr.wf.dJ gq)).trans gq;have eQ:=hr.wf.dJ gq;have O:=sp.ext x0;have V:=g0;have Z:=g1;have B:=E;have bj:=O;have kp:=xz y (.slice a l.length c) nv ov mv;have ka:=Ze y (.slice a l.length c) nv ov mv;have kb:=Zf y (.slice a l.length c) nv ov mv;have dT:=aN y.a.len;have dE:=aU y.a.len;have e9:=y.a.len;have eg:=aN y.b.len;have d9:=JF (l:=l) (f:=f) ω;have ba:=pz (f:=f) sp.ok;refine cQ (E0:=[(0, sb q),(3, sb h.next),(4, sb (h.next+1)),(6, sb H.next)]) (P:=λu=>Ext H u∧u.next=H.next+1/\u.get H.next=some (qt (us w.1))) ?_ ?_
 ·refine Y7 ?_;refine aG (bH ρ ρ YG (by(simp only[aF];assumption)) ρ (by exact bZ _)) ?_;refine bA ?_;refine y1 ?_;exact⟨rfl,rfl,rfl,ff ω _ _,rfl,YG⟩
 rintro H1 ⟨Q,n1,U⟩;have W1:=Q.wf W;have dv:=Q.log.trans hL;have cd:=(Q.old _ ω).trans g0;have cj:=(Q.old _ ω).trans g1;have cX:=(Q.old _ ω).trans E;have dp:=O.ext Q;clear g0 g1 E O;refine Y10 ?_
 refine aY (λm e ds u=>∃i:Nat,i<=l.length/\m=l.length-i/\e=[(0, sb q),(3, sb h.next),(4, sb (h.next+1)),(6, sb H.next),(17, .slice a l.length c),(18, zc (l.length:Nat)),(19, zc (i:Nat))]/\ds=[]/\Ext H u∧H.next<u.next/\u.get H.next=some (qt (us (bsS w.1 ((l.zip f).take i)))))
  ⟨0,hK _,rfl,rfl,rfl,Q,ω,U⟩ ?_
 clear U cd cj cX dp;rintro m e ds G ⟨i,J,rfl,rfl,rfl,D,dC,U⟩;have WG:=D.wf W;have I:=D.log.trans hL;have nG:=D.next
 have X:=(D.old _ ω).trans V;have cJ:=(D.old _ ω).trans Z;have ar:=(D.old _ ω).trans B;have N:=bj.ext D;have d:IsS (bsS w.1 ((l.zip f).take i)):=kE y.a λx hx=>ba x (yn hx);by_cases hlt:i<l.length
 ·obtain⟨p,K⟩:∃r,l[i]? =some r:=⟨l[i],bx hlt⟩;obtain⟨k,aE⟩:∃r,f[i]? =some r:=⟨f[i]' ω,bx _⟩;have g:=sp.ok p (ci K);obtain⟨b,o,c2,vs,be,t,hv,gl,hb,ae⟩:=N.elem K;cases hv;have k1:=ae.all;have k2:=zZ g;have k3:=lQ g;have k4:=FL p;have dj:zd i l.length true:=dz ω;have n:bsS w.1 ((l.zip f).take (i+1))=bsJ (bsS w.1 ((l.zip f).take i)) (p,k):=by
   unfold bsS;rw[JB (Ik K aE),yr];rfl
  generalize bsS w.1 ((l.zip f).take i)=s at*;have L:=aN d.len;have M:=aU d.len;have da:=d.len;refine Y9 ?_;refine cQ (E0:=[(0, sb q),(3, sb h.next),(4, sb (h.next+1)),(6, sb H.next),(7, zc (i:Nat)),(8, sb G.next),(17, .slice (some ⟨b,o,none⟩) l.length c),(18, zc (l.length:Nat)),(19, zc (i:Nat))]) (P:=λu=>Ext G u∧u.next=G.next+1/\u.get G.next=some (qt (pbL p))) ?_ ?_
  ·refine Y6 ?_;refine aG (bH ρ ρ YG τ ρ τ) ?_;refine bA ?_;refine y1 ?_;exact⟨rfl,rfl,rfl,ff ω _ _,rfl,iW _ _⟩
  rintro G2 ⟨x2,n2,g2⟩;have bo:=x2.wf WG;have du:=x2.log.trans I;have Y:=(x2.old _ ω).trans X;have A:=(x2.old _ ω).trans U;have kf:=Cz aE;have kc:=tJ g;have eh:=aN g.len;have v:=D.trans x2;clear X cJ ar gl k1 k2 ae U N;have mk:af .eql (.int .u8 (k:Nat)) (.int .u8 1)=some (.bool (decide (k=1))):=tZ (c:=1) rfl;have C:=IY F.p F.f174 (h:=η G2) (.of bo) d g;unfold bsJ at n;dsimp only at n;by_cases hk1:k=1
  ·rw[decide_eq_true hk1]at mk;rw[if_pos hk1]at n;have aw:=d.join g;generalize gZ s p.cells=j at*;have eJ:=aN aw.len;have eK:=aw.len;refine Y12 ?_;refine FW.pu C ?_;refine aG (bH ρ ρ τ (by(simp only[aF];assumption)) (by(simp only[aF];assumption)) (by exact bZ _)) ?_;refine bA ?_;refine y1 ?_;refine Nt ?_;refine wj ?_;refine tQ ?_;refine Y3 ?_;refine⟨l.length-(i+1),ω,i+1,ω,rfl,rfl,rfl,⟨?_,?_,?_,?_⟩,?_,?_⟩
   ·exact gy v.next (bl _)
   ·rw[Heap.aA ω];exact v.log
   ·intro z hz;exact(z5 ω).trans (v.old z hz)
   ·intro wf;exact(v.wf wf).as (AS.wr h.next _ _ _)
   ·show H.next<G2.next;omega
   ·rw[n];(simp(disch:=first|omega|(simp only[z1,z2];omega))only[z3,z4,z5,z6,z7,z1,z2,V,Z,gq,B,g2,Y,A];done)
  ·rw[decide_eq_false hk1]at mk;rw[if_neg hk1]at n;refine Y14 ?_;exact⟨l.length-(i+1),ω,i+1,ω,rfl,rfl,rfl,v,ω,by rw[n];exact A⟩
 ·obtain rfl:i=l.length:=ω
  have dj:zd l.length l.length false:=dG ω;rw[←d9,wd]at U d;have C2:=yz F (h:=η G) (.of WG) y ar (N.log []) hl hf d;have S:=GW F.p F.f35 F.f121 (h:=η G) (.of WG) d y.b;unfold bsB;generalize alB (l.zip f) (bsS w.1 (l.zip f))=al at*;generalize bsS w.1 (l.zip f)=s at*;have L:=aN d.len;have M:=aU d.len;have da:=d.len;have eq:=nH hf;have eI:=kJ hf;cases J:sIn s w.2 with
  |false=>
   rw[J]at S;refine Y20 ?_;refine FW.puD S (by(repeat apply aB rfl);apply au rfl (ah rfl (bW ρ τ τ τ) (by exact sZ _)) rfl;exact aQ) ?_;clear S C2;refine Y6 ?_;refine kg rfl rfl rfl ρ ρ ρ τ (by(simp only[aF];assumption)) ρ (by exact bZ _) ω ω (by apply au rfl (ah rfl (Ck ρ ρ) (by exact Jx _)) rfl;(repeat apply aB rfl);exact aQ) ?_;refine Y5 ?_;refine an ?_ (bV (own:=true) (s:=1) rfl ?_ M L (Au rfl rfl)) rfl
   ·rw[Heap.aA ω];exact I
   ·exact YG
  |true=>
   rw[J]at S;refine Y20 ?_;refine FW.puD S (by(repeat apply aB rfl);apply au rfl (ah rfl (bW ρ τ τ τ) (by exact sZ _)) rfl;exact aQ) ?_;clear S;refine Y5 ?_;refine FW.puD C2 (by(repeat apply aB rfl);apply au rfl (ah rfl (bW ρ τ τ τ) (by exact sZ _)) rfl;exact aQ) ?_;clear C2;refine qZ9 (c:=xR ρ ρ) (H:=?_);refine kg rfl rfl rfl ρ ρ ρ τ (by(simp only[aF];assumption)) ρ (by exact bZ _) ω ω (by apply au rfl (ah rfl (xR ρ ρ) (by exact Jx _)) rfl;apply aB rfl;exact aQ) ?_;refine Y5 ?_;refine an ?_ (bV (own:=true) (s:=1) rfl ?_ M L (Au rfl rfl)) rfl
   ·rw[Heap.aA ω];exact I
   ·exact YG
structure NdS (h:Heap) (nv:Value) (ns:List (List (List Nat))):Prop where
 ex:∃vals:List Value,aH h 1 nv ns.length vals/\∀(i:Nat) (r:List (List Nat)),ns[i]? =some r->∃v,vals[i]? =some v/\SsQ h v r
def NdS.form{h:Heap}{b:Value}{ns:List (List (List Nat))}(s:NdS h b ns):∃a c,b= .slice a ns.length c:=by
 obtain⟨d,e,_⟩:=s.ex;exact e.form
def NdS.ext{h h':Heap}{b:Value}{ns:List (List (List Nat))}(s:NdS h b ns)(x:Ext h h'):NdS h' b ns:=by
 obtain⟨a,e,f⟩:=s.ex;exact⟨a,e.ext x,λi r c=>by
  obtain⟨v,d,sv⟩:=f i r c;exact⟨v,d,sv.ext x⟩⟩
def NdS.log{h:Heap}{b:Value}{ns:List (List (List Nat))}(s:NdS h b ns)(m:List Nat):NdS {h with log:=m} b ns:=by
 obtain⟨a,e,f⟩:=s.ex;exact⟨a,e.log m,λi r c=>by
  obtain⟨v,d,sv⟩:=f i r c;exact⟨v,d,sv.log m⟩⟩
variable{ns:List (List (List Nat))}
def NdS.elem{g:Value}(s:NdS h g ns){i:Nat}{r:List (List Nat)}(hi:ns[i]? =some r):
 ∃b o c d a t v,g= .slice (some ⟨b,o,none⟩) ns.length c/\h.get b=some (.cells d a t)/\b<h.next/\bN d (o+i*1)=some v/\SsQ h v r:=by
 obtain⟨j,m,n⟩:=s.ex;obtain⟨v,f,sv⟩:=n i r hi;have l:=(List.getElem?_eq_some_iff.1 hi).1;rcases aH.inv m with⟨_,_,h0,_⟩|⟨b,o,cap,hs,s3,hc⟩
 ·omega
 ·obtain⟨d,a,t,k,e⟩:=s3.obj;refine⟨b,o,cap,d,a,t,v,hs,k,s3.lt,?_,sv⟩;rw[bw,aT]at e;rw[←e,wi ω,wn]at f;rw[cC,xr];exact f
def jP(z:Zs)(s:List Nat)(r:List (List Nat)):Nat:=if r.any (λn=>sIn n s)then 1 else if r.any (λn=>alB z (gZ s n))then 3 else 2
def Kf(F:Iq T)(hr:Rdy h){q:Nat}(hw:IsW w)(gq:h.get q=some (qt (quL w pv nv ov mv))){l:List Pb}(sp:PbS h pv l)(hl:l.length<=8)(Z:f.length=8)(M:IsS s)
 (sn:NdS h nv ns)(cY:ns.length<1000000){j:Nat}{r:List (List Nat)}(hj:ns[j]? =some r)(d9:r.length<1000000):
 Pu T 117 [sb q,fV f,sv s, zc (j:Nat)] h (.int .u8 ((jP (l.zip f) s r:Nat):Int)):=by
 refine .of F.p F.f207 hr rfl ?_;have ae:cellsOf (fV f)=fL f:=by show(fL f).toArray.toList=_;simp
 have S:Ext h ((h.push (qt (cellsOf (fV f)))).push (qt (cellsOf (sv s)))):=((Ext.refl h).push _).push _;have g0:((h.push (qt (cellsOf (fV f)))).push (qt (cellsOf (sv s)))).get h.next=some (qt (fL f)):=by rw[ae];exact(z4 (eA _)).trans (z3 h _)
 have g1:((h.push (qt (cellsOf (fV f)))).push (qt (cellsOf (sv s)))).get (h.next+1)=some (qt (us s)):=z3 _ _;have n0:((h.push (qt (cellsOf (fV f)))).push (qt (cellsOf (sv s)))).next=h.next+2:=rfl
 refine Y5 ?_;refine Qt ?_;generalize((h.push (qt (cellsOf (fV f)))).push (qt (cellsOf (sv s))))=H at*;have W:=S.wf hr.wf;have hL:=S.log.trans hr.log;have aw:=hr.wf.dJ gq;have Y:=(S.old _ aw).trans gq;have ba:=sp.ext S;have kn:=UF hw pv nv ov mv;have cJ:=(List.getElem?_eq_some_iff.1 hj).1;obtain⟨nb,no,nc,dT,bo,nt,v,ar,gn,cX,gv,sr⟩:=(sn.ext S).elem hj;subst ar;have Q:=sr;obtain⟨a,c,rfl⟩:=sr.sl.form;have dp:=aN M.len;have du:=aU M.len;have da:=nH Z;have dj:=kJ Z;unfold jP;refine Y19 ?_
 refine aY (λm e ds J=>∃i:Nat,i<=r.length/\m=r.length-i/\e=[(0, sb q),(5, sb h.next),(6, sb (h.next+1)),(9, .int .u8 ((if(r.take i).any (λn=>alB (l.zip f) (gZ s n))then 3 else 2:Nat):Int)),(18, .slice a r.length c),(19, zc (r.length:Nat)),(20, zc (i:Nat))]/\ds=[]/\Ext H J∧(r.take i).any (λn=>sIn n s)=false)
  ⟨0,hK _,rfl,rfl,rfl, .refl H,rfl⟩ ?_
 rintro m e ds G ⟨i,cj,rfl,rfl,rfl,t,z⟩;have WG:=t.wf W;have K:=t.log.trans hL;have nG:=t.next
 by_cases hlt:i<r.length
 ·obtain⟨x,N⟩:∃s,r[i]? =some s:=⟨r[i],bx hlt⟩;have d:=Q.ok x (ci N);obtain⟨b,o,c3,vs,e9,tt,hv,gl,cd,el⟩:=(Q.ext t).elem N;cases hv;have dv:=aN d.len;have dC:=aU d.len;have dE:=d.len;have aE:zd i r.length true:=dz ω;have C:=(t.old _ ω).trans g0;have D:=(t.old _ ω).trans g1;have E:=(t.old _ ω).trans Y;have g:(r.take (i+1)).any (λn=>sIn n s)=((r.take i).any (λn=>sIn n s)||sIn x s):=by rw[eY N,QR];simp
  have k:(r.take (i+1)).any (λn=>alB (l.zip f) (gZ s n))=((r.take i).any (λn=>alB (l.zip f) (gZ s n))||alB (l.zip f) (gZ s x)):=by rw[eY N,QR];simp
  have O:sIn x s=true->r.any (λn=>sIn n s)=true:=λq=>List.any_eq_true.2 ⟨x,ci N,q⟩;generalize(r.take i).any (λn=>alB (l.zip f) (gZ s n))=bb at*;refine Y9 ?_;refine cQ (E0:=[(0, sb q),(5, sb h.next),(6, sb (h.next+1)),(9, .int .u8 ((if bb then 3 else 2:Nat):Int)),(11, sb G.next),(18, .slice (some ⟨b,o,none⟩) r.length c),(19, zc (r.length:Nat)),(20, zc (i:Nat))]) (P:=λJ=>Ext G J∧J.next=G.next+1/\J.get G.next=some (qt (us x))) ?_ ?_
  ·refine Y4 ?_;refine aG (bH ρ ρ YG (by(simp only[aF];assumption)) ρ (by exact bZ _)) ?_;refine bA ?_;refine y1 ?_;exact⟨rfl,rfl,rfl,ff ω _ _,rfl,YG⟩
  rintro X ⟨B,n2,g2⟩;have y:=B.wf WG;have L:=B.log.trans K;have be:=(B.old _ ω).trans C;have bj:=(B.old _ ω).trans D;have I:=(B.old _ ω).trans E;have A:=t.trans B;have u:=GW F.p F.f35 F.f121 (h:=η X) (.of y) d M;have U:=IY F.p F.f174 (h:=η X) (.of y) M d;have V:=yz F (h:=η X) (.of y) hw I ((ba.ext A).log []) hl Z (M.join d);clear C D E gl el;generalize alB (l.zip f) (gZ s x)=ab at*;generalize gZ s x=jx at*;cases hin2:sIn x s with
  |true=>
   rw[hin2]at u;rw[if_pos (O hin2)];refine Y5 ?_;refine FW.pu u ?_;refine Y7 ?_;refine YI ρ ?_;refine YI ρ ?_;refine Y9 ?_;exact an L rfl rfl
  |false=>
   rw[hin2]at u g;rw[z]at g;cases ab with
   |true=>
    rw[Bool.or_true]at k;refine Y5 ?_;refine FW.pu u ?_;clear u;refine Y10 ?_;refine FW.puD U (by(repeat apply aB rfl);apply au rfl (ah rfl (bW ρ τ τ τ) (by exact AJ _)) rfl;apply au rfl (ah rfl (dM ρ) (by exact bh _)) rfl;exact aQ) ?_;clear U;skip;refine qC ?_;refine FW.puD V (by(repeat apply aB rfl);exact aQ) ?_;clear V;refine Y7 ?_;refine bA ?_;refine Y8 ?_;exact⟨r.length-(i+1),ω,i+1,ω,rfl,by rw[k];rfl,rfl,A,g⟩
   |false=>
    rw[Bool.or_false]at k;refine Y5 ?_;refine FW.pu u ?_;clear u;refine Y10 ?_;refine FW.puD U (by(repeat apply aB rfl);apply au rfl (ah rfl (bW ρ τ τ τ) (by exact AJ _)) rfl;apply au rfl (ah rfl (dM ρ) (by exact bh _)) rfl;exact aQ) ?_;clear U;skip;refine qC ?_;refine FW.puD V (by(repeat apply aB rfl);exact aQ) ?_;clear V;refine Y13 ?_;exact⟨r.length-(i+1),ω,i+1,ω,rfl,by rw[k],rfl,A,g⟩
 ·obtain rfl:i=r.length:=ω
  have aE:zd r.length r.length false:=dG ω;rw[wd]at z⊢;rw[if_neg (by rw[z];simp)];refine Y15 ?_;exact an K rfl rfl
end Go.A.Pk
end
section
namespace Go.Proofs
open Go.Shelf
def Tryz.um:Go.Shelf.Ren:=⟨fun|6=>102|15=>139|14=>138|28=>164|29=>165|20=>156|21=>157|22=>158|23=>159|24=>160|25=>161|26=>162|27=>163|46=>179|47=>180|48=>181|49=>182|50=>183|57=>185|n=>n,fun|22=>28|24=>24|25=>153|3=>3|39=>169|0=>0|53=>211|55=>22|4=>4|46=>205|45=>204|50=>87|5=>5|9=>9|66=>220|70=>224|76=>226|77=>227|n=>n,fun|n=>n⟩
def Tryz.sk:Go.Proofs.SlLaysF0.n6 Tryz.prog Tryz.um:={
 mixed:=by kernel_rfl
 f6:=⟨Tryz.f102.name,by decide,Tryz.func102.trans (congrArg some (by kernel_rfl))⟩
 f14:=⟨Tryz.f138.name,by decide,Tryz.func138.trans (congrArg some (by kernel_rfl))⟩
 f15:=Tryz.func139.trans (congrArg some (by kernel_rfl))
 f20:=⟨Tryz.f156.name,by decide,Tryz.func156.trans (congrArg some (by kernel_rfl))⟩
 f21:=⟨Tryz.f157.name,by decide,Tryz.func157.trans (congrArg some (by kernel_rfl))⟩
 f22:=⟨Tryz.f158.name,by decide,Tryz.func158.trans (congrArg some (by kernel_rfl))⟩
 f23:=⟨Tryz.f159.name,by decide,Tryz.func159.trans (congrArg some (by kernel_rfl))⟩
 f24:=⟨Tryz.f160.name,by decide,Tryz.func160.trans (congrArg some (by kernel_rfl))⟩
 f25:=⟨Tryz.f161.name,by decide,Tryz.func161.trans (congrArg some (by kernel_rfl))⟩
 f26:=⟨Tryz.f162.name,by decide,Tryz.func162.trans (congrArg some (by kernel_rfl))⟩
 f27:=⟨Tryz.f163.name,by decide,Tryz.func163.trans (congrArg some (by kernel_rfl))⟩
 f28:=Tryz.func164.trans (congrArg some (by kernel_rfl))
 f29:=Tryz.func165.trans (congrArg some (by kernel_rfl))
 f46:=⟨Tryz.f179.name,by decide,Tryz.func179.trans (congrArg some (by kernel_rfl))⟩
 f47:=Tryz.func180.trans (congrArg some (by kernel_rfl))
 f48:=Tryz.func181.trans (congrArg some (by kernel_rfl))
 f49:=⟨Tryz.f182.name,by decide,Tryz.func182.trans (congrArg some (by kernel_rfl))⟩
 f50:=⟨Tryz.f183.name,by decide,Tryz.func183.trans (congrArg some (by kernel_rfl))⟩
 f57:=⟨Tryz.f185.name,by decide,Tryz.func185.trans (congrArg some (by kernel_rfl))⟩
 t0:=Tryz.underlying0
 a0:=Tryz.isAgg0
 z0:=Tryz.sizeOf0
 v0:=Tryz.zeroValue0
 t3:=Tryz.underlying3
 a3:=Tryz.isAgg3
 z3:=Tryz.sizeOf3
 v3:=Tryz.zeroValue3
 t4:=Tryz.underlying4
 a4:=Tryz.isAgg4
 z4:=Tryz.sizeOf4
 v4:=Tryz.zeroValue4
 t5:=Tryz.underlying5
 a5:=Tryz.isAgg5
 z5:=Tryz.sizeOf5
 v5:=Tryz.zeroValue5
 t9:=Tryz.underlying9
 a9:=Tryz.isAgg9
 z9:=Tryz.sizeOf9
 v9:=Tryz.zeroValue9
 t22:=Tryz.underlying28
 a22:=Tryz.isAgg28
 z22:=Tryz.sizeOf28
 v22:=Tryz.zeroValue28
 t25:=Tryz.underlying153
 a25:=Tryz.isAgg153
 z25:=Tryz.sizeOf153
 v25:=Tryz.zeroValue153
 t39:=Tryz.underlying169
 a39:=Tryz.isAgg169
 z39:=Tryz.sizeOf169
 v39:=Tryz.zeroValue169
 t45:=Tryz.underlying204
 a45:=Tryz.isAgg204
 z45:=Tryz.sizeOf204
 v45:=Tryz.zeroValue204
 t46:=Tryz.underlying205
 a46:=Tryz.isAgg205
 z46:=Tryz.sizeOf205
 v46:=Tryz.zeroValue205
 t50:=Tryz.underlying87
 a50:=Tryz.isAgg87
 z50:=Tryz.sizeOf87
 v50:=Tryz.zeroValue87
 t53:=Tryz.underlying211
 a53:=Tryz.isAgg211
 z53:=Tryz.sizeOf211
 v53:=Tryz.zeroValue211
 t55:=Tryz.underlying22
 a55:=Tryz.isAgg22
 z55:=Tryz.sizeOf22
 v55:=Tryz.zeroValue22
 t66:=Tryz.underlying220
 a66:=Tryz.isAgg220
 z66:=Tryz.sizeOf220
 v66:=Tryz.zeroValue220
 t70:=Tryz.underlying224
 a70:=Tryz.isAgg224
 z70:=Tryz.sizeOf224
 v70:=Tryz.zeroValue224
 t76:=Tryz.underlying226
 a76:=Tryz.isAgg226
 z76:=Tryz.sizeOf226
 v76:=Tryz.zeroValue226
 t77:=Tryz.underlying227
 a77:=Tryz.isAgg227
 z77:=Tryz.sizeOf227
 v77:=Tryz.zeroValue227}
open Go.RowKit Go.Lib Go.Sort in
def Tryz.slices_SortFunc_none(p:Option Addr)(cap:Nat)(a:Value)(w:World):
 Calls Tryz.prog 102 #[.slice p 0 cap,a] w λe w'=>e= .returned (.tuple #[])/\w'=w:=AnyF.slices_SortFunc_none Tryz.sk p cap a w
end Go.Proofs
end
section
namespace Go.A.Pk
open Go Go.Proofs Go.Sort
def jv:∀{a b:List Nat},a.length=b.length->cmpL b a= -cmpL a b
 |[],[],_=>rfl
 |[],_::_,h=>by cases h
 |_::_,[],h=>by cases h
 |x::a,y::b,h=>by
  unfold cmpL;by_cases h1:x<y
  ·rw[if_neg ω,if_pos h1,if_pos h1];rfl
  ·by_cases h2:y<x
   ·rw[if_pos h2,if_neg h1,if_pos h2]
   ·rw[if_neg h2,if_neg h1,if_neg h1,if_neg h2];exact jv (by simpa using h)
def lF:∀{a b:List Nat},a.length=b.length->cmpL a b=0->a=b
 |[],[],_,_=>rfl
 |[],_::_,h,_=>by cases h
 |_::_,[],h,_=>by cases h
 |x::a,y::b,h,h0=>by
  unfold cmpL at h0;by_cases h1:x<y
  ·rw[if_pos h1]at h0;cases h0
  ·by_cases h2:y<x
   ·rw[if_neg h1,if_pos h2]at h0;cases h0
   ·rw[if_neg h1,if_neg h2]at h0;rw[show x=y by omega,lF (by simpa using h) h0]
def qn:∀{a b c:List Nat},a.length=b.length->b.length=c.length->cmpL a b<0->cmpL b c<0->cmpL a c<0
 |[],[],_,_,_,h,_=>by unfold cmpL at h;omega
 |[],_::_,_,h,_,_,_=>by cases h
 |_::_,[],_,h,_,_,_=>by cases h
 |_::_,_::_,[],_,h,_,_=>by cases h
 |x::a,y::b,z::c,h1,h2,q1,q2=>by
  unfold cmpL at q1 q2⊢;by_cases a1:x<y
  ·by_cases b1:y<z
   ·rw[if_pos (show x<z by omega)];omega
   ·rw[if_neg b1]at q2;by_cases b2:z<y
    ·rw[if_pos b2]at q2;omega
    ·rw[if_pos (show x<z by omega)];omega
  ·rw[if_neg a1]at q1;by_cases a2:y<x
   ·rw[if_pos a2]at q1;omega
   ·rw[if_neg a2]at q1;by_cases b1:y<z
    ·rw[if_pos (show x<z by omega)];omega
    ·rw[if_neg b1]at q2;by_cases b2:z<y
     ·rw[if_pos b2]at q2;omega
     ·rw[if_neg b2]at q2;rw[if_neg (show¬x<z by omega),if_neg (show¬z<x by omega)];exact qn (by simpa using h1) (by simpa using h2) q1 q2
abbrev Sol:={l:List Nat // IsS l}
instance:Inhabited Sol:=⟨⟨s0,BP⟩⟩
def za(x:Sol):List Value:=us x.1
def cfS(x y:Sol):Int:=cmpL x.1 y.1
def kW(x y:Sol):x.1.length=y.1.length:=x.2.len.trans y.2.len.symm
def IE:SWO (ltOf cfS):=by
 refine⟨λx=> ?_,λx y z a b=> ?_,λx y z a b=> ?_⟩
 ·unfold ltOf cfS;rw[pH];rfl
 ·unfold ltOf cfS at*;rw[decide_eq_true_eq]at*;exact qn (kW x y) (kW y z) a b
 ·unfold ltOf cfS at*;rw[decide_eq_false_iff_not]at*;have c:=jv (kW x y);have d:=jv (kW y z);have f:=jv (kW x z);rcases Int.lt_or_eq_of_le (show cmpL y.1 x.1<=0 by omega)with q|q
  ·rcases Int.lt_or_eq_of_le (show cmpL z.1 y.1<=0 by omega)with p|p
   ·have:=qn (kW z y) (kW y x) p q;omega
   ·have e:=lF (kW z y) p;rw[e];omega
  ·have e:=lF (kW y x) q;rw[←e];omega
def My(x y:Sol)(h1:ltOf cfS x y=false)(b:ltOf cfS y x=false):x=y:=by
 unfold ltOf cfS at*;rw[decide_eq_false_iff_not]at*;have a:=jv (kW x y);exact Subtype.ext (lF (kW x y) ω)
def EO(x:Sol):(za x).length=8:=by unfold za;rw[aF,x.2.len]
def IP(d:Array Sol):flatK za 8 d=(ssL (d.toList.map (·.1))).toArray:=by
 have a:∀s∈d.toList.map (·.1),IsS s:=λs h=>by
  obtain⟨x,_,rfl⟩:=List.mem_map.1 h;exact x.2
 have f:(ssL (d.toList.map (·.1))).length=d.size*8:=by rw[fP a];simp
 apply ext_get! ((size_flatK za 8 d).trans f.symm);intro t i;have b:t<d.size*8:=by simpa using i
 rw[get_flatK _ _ _ t b];have c:t / 8<d.size:=ω
 have j:(d.toList.map (·.1))[t / 8]? =some (d[t / 8]!).1:=by
  rw[wt,Array.getElem?_toList,Array.getElem?_eq_getElem c,getElem!_pos d (t / 8) c];rfl
 have g:=Jv a j;have e:((ssL (d.toList.map (·.1))).drop (t / 8*8))[t % 8]? =(us (d[t / 8]!).1)[t % 8]? :=by
  rw[←g,wi ω]
 rw[wn,show t / 8*8+t % 8=t by omega]at e;have k:(us (d[t / 8]!).1).length=8:=EO _;rw[bx ω,bx ω,Option.some.injEq]at e;show(us (d[t / 8]!).1)[t % 8]! =(ssL (d.toList.map (·.1))).toArray[t]!;rw[getElem!_pos _ (t % 8) ω,getElem!_pos _ t (show t<(ssL (d.toList.map (·.1))).length by rw[f];exact b),←e];rfl
def EN:Rdy (⟨[],1000,[]⟩:Heap):=⟨⟨by simp,by intro b a;simp at a⟩,rfl⟩
def LR.flat{μ:Mu}:∀{l:List Value},(∀a∈l,dA a=true)->LR μ l l
 |[],_=> .nil
 |a::l,h=> .cons (VR.dA (h a b7)).1 (LR.flat λx hx=>h x (bz _ hx))
def wU{P:Program}{T:Nat->Option aq}(S:eZ P T)(x:P.globals.size<=1000){f:Nat}{args:List Value}{v:Value}(h:iu (T f)=false)(H:Pu T f args ⟨[],1000,[]⟩ v)(u:∀a∈args,dA a=true)(E:dA v=true)(w:World):
 Calls P f args.toArray w λe c=>e= .returned v/\∃q os',c=Sort.grow (w.drewN q) os':=by
 obtain⟨J,G,⟨m,B⟩,rfl,rfl⟩:=H;have d:=B m (bl _);refine(og S d rfl h (R.none (P:=P) (w:=w) x) (LR.flat u)).mono λe c C=> ?_;obtain⟨μ',l,I,n⟩:=C;cases e with
 |returned v'=>
  have j:VR μ' v v':=l;rw[(VR.dA E).2 _ j];have z:∀r,r<w.heap.size->c.heap[r]? =w.heap[r]? :=λr D=>n.keep r D λ⟨b,o,k,g,_⟩=>by cases g
  refine⟨rfl,c.drawn-w.drawn,c.heap.extract w.heap.size c.heap.size,?_⟩;have A:=n.le;have y:c.heap=w.heap++c.heap.extract w.heap.size c.heap.size:=by
   apply Array.ext_getElem?;intro i;by_cases hi:i<w.heap.size
   ·rw[z i hi,Array.getElem?_append_left hi]
   ·rw[Array.getElem?_append_right ω,Array.getElem?_extract];by_cases h2:i<c.heap.size
    ·rw[if_pos ω];congr 1;omega
    ·rw[if_neg ω,Array.getElem?_eq_none ω]
  obtain⟨p,s,t,F⟩:=n.same;cases w with
  |mk a1 a2 a3 a4 a5=>
   cases c with
   |mk b1 b2 b3 b4 b5=>
    dsimp only at p s t F y;subst p;subst s;subst t;show World.mk b1 _ b3 _ _=World.mk (a1++_) _ (a3+(b3-a3)) _ _;rw[show a3+(b3-a3)=b3 by omega];congr 1
 |panicked _=>exact l.elim
 |outgrown=>exact l.elim
def ZX:aI Tryz.prog Tryz.f137 (ksO f168)=some f168:=by kernel_rfl
def ZY:aI Tryz.prog Tryz.f103 (ksO f190)=some f190:=by kernel_rfl
def ZZ:aI Tryz.prog Tryz.f104 (ksO f191)=some f191:=by kernel_rfl
def Z0:aI Tryz.prog Tryz.f140 (ksO f256)=some f256:=by kernel_rfl
def Z1:aI Tryz.prog Tryz.f166 (ksO f315)=some f315:=by kernel_rfl
def Ql:Tr:=(.node (.node (.node .nil 103 f190 .nil) 104 f191 .nil) 137 f168 (.node (.node .nil 140 f256 .nil) 166 f315 .nil))
def TC:Nat->Option aq:=Ql.get
def ZT:Ql.all (Entry Tryz.prog):=by
 unfold Ql;exact(Tr.aa (Tr.aa (Tr.aa Tr.all_nil (.of Tryz.func103 ZY) Tr.all_nil) (.of Tryz.func104 ZZ) Tr.all_nil) (.of Tryz.func137 ZX) (Tr.aa (Tr.aa Tr.all_nil (.of Tryz.func140 Z0) Tr.all_nil) (.of Tryz.func166 Z1) Tr.all_nil))
def HY:eZ Tryz.prog TC:=tN (by kernel_rfl) ZT
def YB:A0 TC:={p:=HY.aK,f191:=by kernel_rfl,f256:=by kernel_rfl,f315:=by kernel_rfl}
def JX(k:Nat)(d:k=137∨k=103)(x y:Sol)(w:World):Calls Tryz.prog k #[.agg (za x).toArray, .agg (za y).toArray] w λe w'=>e= .returned (zc (cfS x y))/\∃q os',w'=Sort.grow (w.drewN q) os':=by
 have c:∀a∈[sv x.1,sv y.1],dA a=true:=λa b=>by
  rcases List.mem_cons.1 b with rfl|b
  ·exact iQ _
  ·rw[List.mem_singleton.1 b];exact iQ _
 rcases d with rfl|rfl
 ·exact wU HY pM (by kernel_rfl) (RY YB (by kernel_rfl) EN x.2 y.2) c rfl w
 ·exact wU HY pM (by kernel_rfl) (RZ YB (by kernel_rfl) EN x.2 y.2) c rfl w
def I9(l:List (List Nat))(h:∀s∈l,IsS s):∃d:List Sol,d.map (·.1)=l:=⟨l.attach.map λx=>⟨x.1,h _ x.2⟩,by simp⟩
def Gb(d:List Sol):(d.mergeSort λx y=> !(ltOf cfS) y x).map (·.1)=fH (d.map (·.1)):=by
 unfold fH;exact List.map_mergeSort λa _ b _=>rfl
def GQ(k:Nat)(a:k=137∨k=103):∀args w,(callFunc k args).run Tryz.prog w= .ok (.enter k args) w:=by
 rcases a with rfl|rfl
 ·exact enters_of Tryz.func137 (by kernel_rfl) rfl
 ·exact enters_of Tryz.func103 (by kernel_rfl) rfl
def Y1:Entry Tryz.prog 102 (.mW (sM 137 103)):=by
 refine .mW (KH Tryz.func102 (of_decide_eq_true (by kernel_rfl)) (by kernel_rfl) (λk p c w=>Tryz.slices_SortFunc_none p c _ w) ?_);intro k q a b c l w o t f z;obtain⟨d,i⟩:=I9 l o;have j:flatK za 8 d.toArray=(ssL l).toArray:=by rw[IP];simp[i]
 have g:d.length=l.length:=by rw[←i];simp
 have h:=AnyQ.slices_SortFunc_total Tryz.sk 8 (Tryz.isAgg24) (Tryz.sizeOf24) za EO (λx v A=>by
  obtain⟨n,_,rfl⟩:=List.mem_map.1 A;rfl) cfS IE k #[] a b c d.toArray w (GQ k q) (λm os s r x y=>by
   have:=JX k q x y (sortWorldK za 8 w a b m s os);simpa using this) (by
   show Holds id w a b (flatK za 8 d.toArray);rw[j];exact t) f (by simpa[g]using z) My
 have r:d.toArray.size=l.length:=by simpa using g
 rw[r]at h;refine h.mono λe C ⟨u,n,os,B⟩=>⟨u,n,os,?_⟩;rw[B];show Sort.grow (putRow id (Sort.ahead w n) a b (flatK za 8 _)) os=_;rw[IP];congr 2;have:=Gb d;rw[i]at this;simpa using congrArg ssL this
end Go.A.Pk
end
section
namespace Go.A.Pk
open Go.Sort Go.Proofs
def SLt(a b:List Nat):Prop:=cmpL a b<0
variable{l:List (List Nat)}
def Jt(h:∀s∈l,IsS s):(fH l).Pairwise λa b=>¬cmpL b a<0:=by
 obtain⟨d,rfl⟩:=I9 l h;rw[←Gb];have e:=IE;have i:=List.pairwise_mergeSort (le:=λx y:Sol=> !(ltOf cfS) y x) (λa b c f g=>by
  rw[Id]at*;exact e.ntrans _ _ _ g f) (λa b=>by
  rw[wp,Id,Id];cases hab:ltOf cfS b a with
  |false=>exact .inl rfl
  |true=>
   right;cases hba:ltOf cfS a b with
   |false=>rfl
   |true=>
    have:=e.trans _ _ _ hab hba;rw[e.irrefl]at this;cases this) d
 rw[List.pairwise_map];refine i.imp λ{a b} q=> ?_;rw[Id]at q;unfold ltOf cfS at q;exact of_decide_eq_false q
def ML:∀{l:List (List Nat)},(∀s∈l,IsS s)->(l.Pairwise λa b=>¬cmpL b a<0)->(ddS l).Pairwise SLt
 |[],_,_=>List.Pairwise.nil
 |[a],_,_=>List.pairwise_singleton _ _
 |a::b::l,h,hp=>by
  obtain⟨h1,h2⟩:=List.pairwise_cons.1 hp;have j:=ML (λs m=>h s (bz _ m)) h2;unfold ddS;by_cases e:a=b
  ·rw[if_pos e];exact j
  ·rw[if_neg e];refine List.pairwise_cons.2 ⟨λx n=> ?_,j⟩;have c:=qq n;have f:=h a b7;have i:=h b (bz _ b7);have g:=h x (bz _ c);have k:a.length=x.length:=f.len.trans g.len.symm;have r:=h1 x c;have o:=jv k;rcases Int.lt_or_eq_of_le (show cmpL a x<=0 by omega)with q|q
   ·exact q
   ·have d:=lF k q;have t:=h1 b b7;have p:=jv (f.len.trans i.len.symm);have u:¬cmpL a b<0:=by
     rcases List.mem_cons.1 c with rfl|c
     ·exact absurd d e
     ·have:=(List.pairwise_cons.1 h2).1 x c;rw[←d]at this;exact this
    exact absurd (lF (f.len.trans i.len.symm) ω) e
def nX(a:List Nat):¬SLt a a:=by unfold SLt;rw[pH];omega
def K4(h:l.Pairwise SLt):l.Nodup:=by
 unfold List.Nodup;exact h.imp λ{a b} q (e:a=b)=>nX a (by rw[←e]at q;exact q)
def AF:∀{l k:List (List Nat)},(∀s∈l,IsS s)->(∀s∈k,IsS s)->l.Pairwise SLt->k.Pairwise SLt->(∀x,x∈l↔x∈k)->l=k
 |[],[],_,_,_,_,_=>rfl
 |[],b::k,_,_,_,_,h=>by have:=(h b).2 b7;cases this
 |a::l,[],_,_,_,_,h=>by have:=(h a).1 b7;cases this
 |a::l,b::k,hl,hk,p1,p2,h=>by
  obtain⟨f,i⟩:=List.pairwise_cons.1 p1;obtain⟨g,j⟩:=List.pairwise_cons.1 p2;have d:a=b:=by
   rcases List.mem_cons.1 ((h a).1 b7)with q|q
   ·exact q
   ·rcases List.mem_cons.1 ((h b).2 b7)with q2|q2
    ·exact q2.symm
    ·have o:=g a q;have p:=f b q2;have m:=hl a b7;have n:=hk b b7;unfold SLt at o p;have:=jv (m.len.trans n.len.symm);omega
  subst d;congr 1;refine AF (λs e=>hl s (bz _ e)) (λs e=>hk s (bz _ e)) i j λx=>⟨λc=> ?_,λc=> ?_⟩
  ·rcases List.mem_cons.1 ((h x).1 (bz _ c))with rfl|q
   ·exact absurd (f _ c) (nX _)
   ·exact q
  ·rcases List.mem_cons.1 ((h x).2 (bz _ c))with rfl|q
   ·exact absurd (g _ c) (nX _)
   ·exact q
variable{w:List Nat×List Nat}
def Fz(d:IsW w)(o:List Nat):(oz w o).Pairwise SLt:=by
 unfold oz;have h:∀s∈(mO w.2 o).map λp=>eX p w.1,IsS s:=λs b=>by
  obtain⟨p,c,rfl⟩:=List.mem_map.1 b;exact(qD c).less d.a
 exact ML (λs b=>h s (iA.1 b)) (Jt h)
def BF{o q:List Nat}:q∈oz w o↔ ∃p∈mO w.2 o,eX p w.1=q:=by
 unfold oz;constructor
 ·intro h;exact List.mem_map.1 (iA.1 (qq h))
 ·intro h;exact uX (iA.2 (List.mem_map.2 h))
variable{a b p:List Nat}
def OW(hb:¬b=s0):p∈mO a b↔ ∃f∈jC a b,f.s=p:=by
 unfold mO;rw[if_neg hb];constructor
 ·intro h;exact List.mem_map.1 (iA.1 (qq h))
 ·intro h;exact uX (iA.2 (List.mem_map.2 h))
def zP{α:Type}[DecidableEq α]:∀{l k:List α},l.Nodup->(∀x∈l,x∈k)->l.length<=k.length
 |[],_,_,_=>hK _
 |a::l,k,hn,h=>by
  obtain⟨h1,h2⟩:=List.nodup_cons.1 hn;have b:=h a b7;have d:=zP (k:=k.erase a) h2 λx c=>(List.mem_erase_of_ne (λ(e:x=a)=>h1 (by rw[←e];exact c))).2 (h x (bz _ c));rw[List.length_erase_of_mem b]at d;have:=ac9 b;rw[tb];omega
def Rl{n m:Nat}(h:ceN n=ceN m):n=m:=by
 unfold ceN at h;injection h with h1 h2 h3
 omega
def EI(s:List Nat)(n:Nat):(aW s n).Nodup:=by
 unfold aW;refine List.Pairwise.filter _ ?_;rw[List.pairwise_map];exact List.nodup_range.imp λ{a b} h e=>h (Rl e)
def BC{f:Ce->Ce}{s:List Nat}(g:∀c∈aW s 512,inG (f c)=true)(j:∀c d,f c=f d->c=d):ij s<=ij (iD f s):=by
 unfold ij;rw[←List.length_map (f:=f)];refine zP ?_ λx k=> ?_
 ·unfold List.Nodup;rw[List.pairwise_map];exact(EI s 512).imp λ{a b} h e=>h (j a b e)
 ·obtain⟨c,i,rfl⟩:=List.mem_map.1 k;exact dZ.2 ((jS g _).2 ⟨c,dZ.1 i,rfl⟩)
def Pz(k:Nat)(c d:Ce)(h:eE k c=eE k d):c=d:=by
 obtain⟨a,b,e⟩:=c;obtain⟨f,g,i⟩:=d;unfold eE at h;split at h<;>(injection h with h1 h2 h3;(try dsimp only at h1 h2 h3);congr 1<;>omega)
def F5:∀(n:Nat) (c d:Ce),qR n c=qR n d->c=d
 |0,_,_,h=>h
 |n+1,c,d,h=>by
  refine F5 n c d ?_;unfold qR HU at h;injection h with h1 h2 h3
  generalize qR n c=x at*;generalize qR n d=y at*;obtain⟨x1,x2,x3⟩:=x;obtain⟨a,b,e⟩:=y;dsimp only at h1 h2 h3;congr 1;omega
def Qm(t:Nat)(c d:Ce)(h:gQ t c=gQ t d):c=d:=Pz _ _ _ (F5 _ _ _ h)
def Wt(x y z:Int)(c d:Ce)(h:shC x y z c=shC x y z d):c=d:=by
 obtain⟨a,b,e⟩:=c;obtain⟨f,g,i⟩:=d;unfold shC at h;injection h with h1 h2 h3
 dsimp only at h1 h2 h3;congr 1<;>omega
def Dj{t:Nat}{x y z:Int}(r:Rng (cA (dY b t)).1 x y z):ij b<=ij (iD (shC x y z) (dY b t)):=
 gy (BC (λc a=>oJ c (jt a)) (Qm t)) (BC (λc a=>r.all (dZ.1 a)) (Wt x y z))
def UK(a b p:List Nat):Prop:=∃t,t<24/\∃x y z,Rng (cA (dY b t)).1 x y z/\iD (shC x y z) (dY b t)=p/\sIn p a=true
def RF(K:IsS a)(hb:IsS b)(J:¬b=s0):(∃f∈jC a b,f.s=p)↔UK a b p:=by
 have m:=λt=>nY b t;constructor
 ·rintro⟨f,g,rfl⟩;unfold jC at g;split at g
  ·cases g
  ·obtain⟨t,A,g⟩:=List.mem_flatMap.1 g;have T:=iG (dY b t);have v:=iG a;unfold rW J2 zh wg xQ at g;obtain⟨z,O,g⟩:=List.mem_flatMap.1 g;obtain⟨y,N,g⟩:=List.mem_flatMap.1 g;obtain⟨x,M,g⟩:=List.mem_flatMap.1 g;rw[Eg]at M N O;obtain⟨⟨G,H,I⟩,⟨D,E,F⟩⟩:=v;have r:Rng (cA (dY b t)).1 x y z:=⟨ω,ω,ω⟩;split at g
   ·rename_i i;rw[List.mem_singleton.1 g];refine⟨t,List.mem_range.1 A,x,y,z,r,?_,i⟩;exact(I5 (m t) r).symm
   ·cases g
 ·rintro⟨t,A,x,y,z,r,rfl,i⟩;have j:=(gY (nR r) K).1 i;have e:∀c,eU (dY b t) c=true->eU a (shC x y z c)=true:=λc h=>j _ ((jS (λd L=>r.all (dZ.1 L)) _).2 ⟨c,h,rfl⟩);have n:∀x∈aW b 512,inG (gQ t x)=true:=λc h=>oJ c (jt h);have l:¬dY b t=s0:=by
   intro q;obtain⟨c,h⟩:=p8 hb J;have:=(jS n (gQ t c)).2 ⟨c,h,rfl⟩;rw[show iD (gQ t) b=s0 from q,oE]at this;cases this
  obtain⟨B,k⟩:=p8 (m t) l;have C:=om (e B k);obtain⟨P,Q,S⟩:=lW.1 (Nd k);unfold shC at C;dsimp only at C;have lo:=UW l (x:=(cA a).1.lo.x-x) (y:=(cA a).1.lo.y-y) (z:=(cA a).1.lo.z-z) ω ω ω λc h=>by
   have:=om (e c h);unfold shC at this;dsimp only at this;omega
  have W:=GM l (x:=(cA a).1.hi.x-x) (y:=(cA a).1.hi.y-y) (z:=(cA a).1.hi.z-z) ω ω ω λc h=>by
   have:=om (e c h);unfold shC at this;dsimp only at this;omega
  have o:¬ij a<ij b:=by
   have U:=Dj r;have V:=Sub.cnt j;omega
  have w:¬a=s0:=by
   intro q;have:=e B k;rw[q,oE]at this;cases this
  have u:=I5 (m t) r;refine⟨⟨t,x,y,z,mR (dY b t) (cA (dY b t)).1 x y z⟩,?_,u⟩;unfold jC;rw[if_neg (λq=>q.elim w o)];refine List.mem_flatMap.2 ⟨t,List.mem_range.2 A,?_⟩;unfold rW J2 zh wg xQ;refine List.mem_flatMap.2 ⟨z,Eg.2 ω,List.mem_flatMap.2 ⟨y,Eg.2 ω,List.mem_flatMap.2 ⟨x,Eg.2 ω,?_⟩⟩⟩;rw[if_pos (by rw[u];exact i)];exact List.mem_singleton.2 rfl
def yc(d:IsS a)(hb:IsS b)(c:¬b=s0):p∈mO a b↔UK a b p:=by
 rw[OW c,RF d hb c]
end Go.A.Pk
end
section
namespace Go.A.Pk
variable {T:Nat->Option aq}
variable{w:List Nat×List Nat}{o s:List Nat}
def pU(a:IsW w)(h:s∈cE w o):IsS s:=vr a (List.mem_filter.1 h).1
def nr(w:List Nat×List Nat)(o:List Nat):(cE w o).length<=98304:=gy (Xs ..) (wv w o)
variable{a b c:List Nat}
def Sub.trans(h1:Sub a b)(d:Sub b c):Sub a c:=λx e=>d x (h1 x e)
def wN(d:IsS a)(hb:IsS b):Sub a (gZ a b):=λc e=>by rw[wM d hb,e];rfl
def Lb(d:IsS a)(hb:IsS b):Sub b (gZ a b):=λc e=>by rw[wM d hb,e,Bool.or_true]
def Fh(f:IsS a)(hb:IsS b)(h1:Sub a c)(e:Sub b c):Sub (gZ a b) c:=λx d=>by
 rw[wM f hb,wp]at d;exact d.elim (h1 x) (e x)
def ql:∀{z:Zs} {s:List Nat},IsS s->(∀x∈z,IsS x.1.cells)->Sub s (bsS s z)
 |[],s,_,_=>λc hc=>hc
 |x::z,s,hs,h=>by
  have hx:=h x b7;have a:∀y∈z,IsS y.1.cells:=λy b=>h y (bz _ b);show Sub s (bsS (bsJ s x) z);unfold bsJ;split
  ·exact(wN hs hx).trans (ql (hs.join hx) a)
  ·exact ql hs a
def tn:∀{z:Zs} {s:List Nat},IsS s->(∀x∈z,IsS x.1.cells)->∀x∈z,x.2=1->Sub x.1.cells (bsS s z)
 |[],_,_,_,x,hx,_=>by cases hx
 |y::z,s,hs,h,x,hx,h1=>by
  have a:=h y b7;have b:∀y∈z,IsS y.1.cells:=λy a=>h y (bz _ a);show Sub x.1.cells (bsS (bsJ s y) z);rcases List.mem_cons.1 hx with rfl|hx
  ·unfold bsJ;rw[if_pos h1];exact(Lb hs a).trans (ql (hs.join a) b)
  ·unfold bsJ;split
   ·exact tn (hs.join a) b x hx h1
   ·exact tn hs b x hx h1
def tj:∀{z:Zs} {s t:List Nat},IsS s->(∀x∈z,IsS x.1.cells)->Sub s t->(∀x∈z,x.2=1->Sub x.1.cells t)->Sub (bsS s z) t
 |[],_,_,_,_,h1,_=>h1
 |x::z,s,t,hs,h,h1,h2=>by
  have hx:=h x b7;have b:∀y∈z,IsS y.1.cells:=λy a=>h y (bz _ a);show Sub (bsS (bsJ s x) z) t;unfold bsJ;split
  ·rename_i hk;exact tj (hs.join hx) b (Fh hs hx h1 (h2 x b7 hk)) λy a=>h2 y (bz _ a)
  ·exact tj hs b h1 λy a=>h2 y (bz _ a)
variable{z:Zs}
def Cq:alB z s=true↔ ∀x∈z,x.2=2->sIn x.1.cells s=false:=by
 unfold alB;rw[PP];refine⟨λh x b a=> ?_,λh x b=> ?_⟩
 ·have:=h x b;rw[decide_eq_true a,yi,Id]at this;exact this
 ·by_cases a:x.2=2
  ·rw[h x b a,M2];rfl
  ·rw[decide_eq_false a];rfl
def trB(w:List Nat×List Nat)(z:Zs)(t:List Nat):Bool:=
 sIn w.1 t&&sIn t w.2&&z.all λx=> !((decide (x.2=1)&& !sIn x.1.cells t)||(decide (x.2=2)&&sIn x.1.cells t))
def Qi{t:List Nat}(h:∀x∈z,x.2=1->sIn x.1.cells t=true):(z.all λx=> !((decide (x.2=1)&& !sIn x.1.cells t)||(decide (x.2=2)&&sIn x.1.cells t)))=alB z t:=by
 have e:∀x∈z,(!((decide (x.2=1)&& !sIn x.1.cells t)||(decide (x.2=2)&&sIn x.1.cells t)))= !(decide (x.2=2)&&sIn x.1.cells t):=λx a=>by
  by_cases hk:x.2=1
  ·rw[h x a hk,decide_eq_true hk];rfl
  ·rw[decide_eq_false hk];rfl
 unfold alB;rw[In,PP,PP];exact⟨λq x a=>by rw[←e x a];exact q x a,λq x a=>by rw[e x a];exact q x a⟩
def TL(b:IsW w)(c:∀x∈z,IsS x.1.cells):trB w z (bsS w.1 z)=bsB w z:=by
 have d:=kE b.a c;unfold trB bsB;rw[Qi λx e f=>(gY (c x e) d).2 (tn b.a c x e f),(gY b.a d).2 (ql b.a c),yi]
def TM(c:IsW w)(f:∀x∈z,IsS x.1.cells)(g:bsB w z=true){n:List Nat}(e:IsS n)(h:Sub n w.2):trB w z (gZ (bsS w.1 z) n)=alB z (gZ (bsS w.1 z) n):=by
 have d:=kE c.a f;have i:=d.join e;unfold bsB at g;rw[gk]at g;have k:=ql (z:=z) c.a f;have l:=(gY d c.b).1 g.1;unfold trB;rw[Qi λx j m=>(gY (f x j) i).2 ((tn c.a f x j m).trans (wN d e)),(gY c.a i).2 (k.trans (wN d e)),(gY i c.b).2 (Fh d e l h),yi,yi]
def Ke(z:Zs)(s:List Nat)(l:List (List Nat))(n:List Nat):jP z s (l++[n])=if sIn n s then 1 else if(alB z (gZ s n)&&decide (jP z s l=2))then 3 else jP z s l:=by
 unfold jP;rw[QR,QR];simp only[List.any_cons,List.any_nil,Bool.or_false];cases h1:sIn n s<;>cases h2:l.any (λn=>sIn n s)<;>cases h3:alB z (gZ s n)<;>cases h4:l.any (λn=>alB z (gZ s n))<;>rfl
def vt(g:IsW w){n:List Nat}(l:IsS o)(j:¬o=s0)(k:n∈cE w o):Sub n w.2:=by
 obtain⟨p,i,rfl⟩:=BF.1 (List.mem_filter.1 k).1;have d:=qD i;obtain⟨t,m,x,y,z,r,e,f⟩:=(yc g.b l j).1 i;intro c h;rw[BQ d g.a,gk]at h;exact(gY d g.b).1 f c h.1
def ZU(t:List Nat)(p:Pb):Nat:=if sIn p.cells t then 1 else 2
variable{lo:Nat}{h:Heap}{v:Value}
def OwS.I3{h':Heap}{l:List (List Nat)}(q:OwS lo h v l)(d:h.next<=h'.next)(a:∀z,vB v z->h'.get z=h.get z):OwS lo h' v l:=by
 rcases q with q|⟨b,c,t,h1,h2,h3,rfl,h4⟩
 ·exact .inl q
 ·exact .inr ⟨b,c,t,h1,ω,(a b ⟨_,_,rfl⟩).trans h3,rfl,h4⟩
def Pa(f:IsW w)(d g c b v:Value)(e:cellsOf v=[v]):dP (quL w d g c b) (0+17) (cellsOf v)=quL w d v c b:=by
 have a:=jB f;rw[e];unfold quL;rw[gH (by rw[dk,a];simp),hF,List.take_append,go ω,a,List.drop_append,xi (by simp;omega),a];simp
variable{n sz:Nat}{cs:List Value}
def Ji{p m c:Nat}(s:Own lo h sz (sh p m c) n cs):h.get p=some (.cells cs true sz):=by
 cases s with
 |full h1 h2 h3=>exact h3
def Jj(s:Own lo h 1 v n cs):cs.length=n:=by
 cases s with
 |nil=>rfl
 |full h1 h2 h3 h4=>omega
def OQ(s:Own lo h sz v n cs)(a:0<n):oV v=false:=by
 cases s with
 |nil=>omega
 |full=>rfl
structure Ui (T:Nat->Option aq):Prop where
 nd:El T
 f201:T 73=some f201
variable{os:List (List Nat)}
def R6(F:Ui T)(hr:Rdy h)(hg:Tab h)(h2:0<h.next){q:Nat}(eJ:2<q)(M:IsW w){B ov y:Value}(gq:h.get q=some (qt (quL w B (.slice none 0 0) ov y)))(so:SsQ h ov os)(eI:os.length<1000000)
 (dj:∀b o m c,ov= .slice (some ⟨b,o,none⟩) m c->b<q):
 Gs T 73 [sb q] h (λz=>q<=z) λ_ k=>(∀z,z<h.next->z≠q->k.get z=h.get z)/\∃A,k.get q=some (qt (quL w B A ov y))/\NdS k A (os.map (cE w)):=by
 have hp:=F.nd.pl.fi.ft.li.p;refine .ofK hp F.f201 ?_;obtain⟨a,c,rfl⟩:=so.sl.form;have ba:=hr.wf.dJ gq;have ko:=λA=>UG M B A (.slice a os.length c) y;have kn:=λA=>UF M B A (.slice a os.length c) y;have kw:=λA=>Zh M B A (.slice a os.length c) y;have f7:=gu M;have U:=λA v=>Pa M B A (.slice a os.length c) y v;have dE:=λA=>HO M B A (.slice a os.length c) y;have eQ:=ko (.slice none 0 0);refine Y9 ?_
 refine aY (λm e ds k=>∃(i:Nat) (v:Value) (d:List Value),i<=os.length/\m=os.length-i/\e=[(0, sb q),(7, .slice a os.length c),(8, zc (os.length:Nat)),(9, zc (i:Nat))]/\ds=[]/\WF k∧h.next<=k.next/\fD q k.log/\(i=0->k=h)/\(0<i->q∈k.log)/\(∀z,z<h.next->z≠q->k.get z=h.get z)/\k.get q=some (qt (quL w B v (.slice a os.length c) y))/\Own h.next k 1 v i d/\eN d=true/\∀j r,((os.take i).map (cE w))[j]? =some r->∃u,d[j]? =some u/\OwS h.next k u r)
  ⟨0, .slice none 0 0,[],hK _,rfl,rfl,rfl,hr.wf,bl _,by rw[hr.log];exact fD.nil _,λ_=>rfl,λq=>absurd q (xc 0),λ_ _ _=>rfl,gq, .nil,rfl,λj r t=>(by rw[ST,List.map_nil,List.getElem?_nil]at t;cases t)⟩ ?_
 rintro m e ds G ⟨i,v,d,eq,rfl,rfl,rfl,WG,nG,lG,cX,cY,oG,O,I,bj,S⟩;have cJ:G.get 0=h.get 0:=oG 0 h2 ω;by_cases hlt:i<os.length
 ·obtain⟨x,hx⟩:∃s,os[i]? =some s:=⟨os[i],bx hlt⟩;have L:=so.ok x (ci hx);obtain⟨b,o,c3,vs,fg,tt,hv,gl,cd,el⟩:=so.elem hx;cases hv;have cj:b≠q:=Nat.ne_of_lt (dj _ _ _ _ rfl);have eh:=(oG b cd cj).trans gl;have f9:=aN L.len;have fb:=aU L.len;have fd:=L.len;have e9:zd i os.length true:=dz ω;refine Y9 ?_;refine cQ (E0:=[(0, sb q),(3, sb G.next),(7, .slice (some ⟨b,o,none⟩) os.length c),(8, zc (os.length:Nat)),(9, zc (i:Nat))]) (P:=λk=>Ext G k∧k.next=G.next+1/\k.get G.next=some (qt (us x))) ?_ ?_
  ·refine Y4 ?_;refine aG (bH ρ ρ YG (by(simp only[aF];assumption)) ρ (by exact bZ _)) ?_;refine bA ?_;refine y1 ?_;exact⟨rfl,rfl,rfl,ff ω _ _,rfl,YG⟩
  rintro Y ⟨V,n2,g2⟩;have Z:=V.wf WG;have ar:=(V.old _ ω).trans O;have aw:Tab Y:=((V.old 0 ω).trans cJ).trans hg;have C:=Sg F.nd (h:=η Y) (.of Z) (show Tab Y from aw) (by show 0<Y.next;omega) M L;obtain⟨E,H,rfl⟩:∃a c,v= .slice a i c:=(I.slice ω).form;have f0:=ko (.slice E i H);have eK:=kn (.slice E i H);have f8:=kw (.slice E i H);refine Y12 ?_;refine FW.alD C (λv k m q=>q.log m) ?_;rintro u g N q5;clear C;have q5:OwS Y.next g u (cE w x):=q5
  have n5:=N.next
  have bo:=(N.old _ ω).trans ar;have eg:=(N.old _ ω).trans g2;refine⟨_,by(repeat apply aB rfl);apply au rfl (ah rfl (cw ρ τ τ) (by exact dw _ _ _)) rfl;apply au rfl (ah rfl (dL ρ) (by exact bh _)) rfl;apply au rfl (ah rfl (iN ρ) (by exact bh _)) rfl;apply au rfl (ah rfl (dM ρ) (by exact bh _)) rfl;apply au rfl (ah rfl (dM ρ) (by exact bh _)) rfl;exact aQ,?_⟩;obtain⟨W,X,rfl⟩:=q5.form;refine ru rfl rfl rfl ρ ρ ρ (kA ρ ρ) (by refine bY (ah rfl (cw ρ YG τ) (by exact dw _ _ _)) ?_;refine bY (ah rfl (dL ρ) (by exact bh _)) ?_;refine bY (ah rfl (iN ρ) (by exact bh _)) ?_;refine bY (ah rfl (dM ρ) (by exact bh _)) ?_;refine bY (ah rfl (dM ρ) (by exact bh _)) ?_;exact qT) ?_;have x6:Ext g (g.push (qt [.slice W (cE w x).length X])):=(Ext.refl g).push _;have Q:∀l a c,(.slice E i H:Value)= sh l a c->h.next<=l∧l<G.next:=λl a c e=>by rw[e]at I;exact Dg I
  have n6:(g.push (qt [.slice W (cE w x).length X])).next=g.next+1:=rfl
  refine Qo (lo:=q) (n:=i) (cs:=d) (c1:=[.slice W (cE w x).length X]) ((I.ext (V.trans (N.trans x6))).low ω) ω ω ω rfl rfl rfl ρ ρ ρ (DQ (fA (cs:=[.slice W (cE w x).length X]) (z3 g _) rfl rfl)) rfl rfl bj (by show fD q g.log;rw[N.log,V.log];exact lG) (x6.wf (N.wf Z)) ?_;intro J lg o7 n7 l7 W7 f;have n7:g.next+1<J.next:=n7
  have f:∀z,z<g.next->(∀l a c,(.slice E i H:Value)= sh l a c->z≠l)->J.get z=g.get z:=λz D K=>(f z (by show z<g.next+1;omega) K).trans (z4 D)
  have o7:Own (g.next+1) J 1 (sh (g.next+1) (i+1) UNK) (i+1) (d++[.slice W (cE w x).length X]):=o7;have ae:J.get q=some (qt (quL w B (.slice E i H) (.slice (some ⟨b,o,none⟩) os.length c) y)):=(f q ω (λl a c e=>by have:=(Q l a c e).1;omega)).trans bo;refine⟨_,by(repeat apply aB rfl);apply au rfl (ah rfl (dM ρ) (by exact bh _)) rfl;exact aQ,?_⟩;have kc:(Nat.beq (bS (cellsOf (sh (g.next+1) (i+1) UNK))) 1&&Nat.ble (0+17+1) (bS (quL w B (.slice E i H) (.slice (some ⟨b,o,none⟩) os.length c) y))&&eN (cellsOf (sh (g.next+1) (i+1) UNK)))=true:=by
   rw[cK (quL w B (.slice E i H) (.slice (some ⟨b,o,none⟩) os.length c) y),dE (.slice E i H)];rfl
  have dT:=U (.slice E i H) (sh (g.next+1) (i+1) UNK) rfl;have be:q<J.next:=ω
  refine Y2 ?_;refine iB rfl rfl rfl ρ ρ ρ ae kc dT be (by(repeat apply aB rfl);exact aQ) ?_;refine Y8 ?_;refine⟨os.length-(i+1),ω,i+1, sh (g.next+1) (i+1) UNK,d++[.slice W (cE w x).length X],ω,rfl,rfl,rfl,W7.as (AS.wr h.next _ _ _),(by show h.next<=J.next;omega),AP l7 (bl q),λe=>ω,λ_=>Eb ba,λz D K=> ?_,?_,?_,nT bj rfl,λj r t=> ?_⟩
  ·exact(z5 K).trans ((f z ω (λl a c e=>by have:=(Q l a c e).1;omega)).trans ((N.old z ω).trans ((V.old z ω).trans (oG z D K))))
  ·rw[z6,ae];rfl
  ·exact(o7.keep (h':=J.wr h.next q (qt (quL w B (sh (g.next+1) (i+1) UNK) (.slice (some ⟨b,o,none⟩) os.length c) y))) (bl _) λz D _=>z5 ω).low ω
  ·have dv:d.length=i:=by
    have:=I.slice ω;exact Jj I
   have aE:((os.take i).map (cE w)).length=i:=by rw[j3,lp];omega
   rw[eY hx,A1]at t;rcases Hk j i with hji|hji
   ·rw[oB ω]at t;obtain⟨u',du,qo⟩:=S j r t;refine⟨u',by rw[oB ω];exact du,qo.I3 (by show G.next<=J.next;omega) λz D=> ?_⟩;have dC:=qo.vb D;refine(z5 ω).trans ((f z ω (λl a c e=> ?_)).trans ((N.old z ω).trans (V.old z ω)));rw[e]at I;exact qo.ne (Ji I) z D
   ·obtain rfl:j=i:=by
     have:=(List.getElem?_eq_some_iff.1 t).1;rw[dk,aE]at this;simp at this;omega
    rw[hX ω,aE,J0]at t;simp at t;subst t;refine⟨_,by rw[hX ω,dv,J0];rfl,(q5.low ω).I3 (by show g.next<=J.next;omega) λz D=> ?_⟩;have dC:=q5.vb D;exact(z5 ω).trans ((f z ω (λl a c e=>by have:=(Q l a c e).2;omega)))
 ·obtain rfl:i=os.length:=ω
  have e9:zd os.length os.length false:=dG ω;rw[wd]at S;have da:0<os.length->oV v=false:=λq=>OQ I q;have dp:=I.slice ω;refine Y9 ?_;refine JZ (λz D=>lG z D) ?_ rfl ⟨oG,v,O,d,?_,λj r t=> ?_⟩
  ·rcases Nat.eq_zero_or_pos os.length with q0|q0
   ·exact .inl (cX q0)
   ·exact .inr ⟨q,ba,cY q0,_,_,_,O,F7 (da q0) (IR _ (by simp))⟩
  ·rw[j3];exact dp
  ·obtain⟨u,hu,qu⟩:=S j r t;refine⟨u,hu,qu.ss λs hs=> ?_⟩;have d9:=ci t;obtain⟨x,_,rfl⟩:=List.mem_map.1 d9;exact pU M hs
def mM(w:List Nat×List Nat)(l:List Pb)(os:List (List Nat)):Int:=
 if sIn w.1 w.2=false then 1 else if 6<os.length then 2 else if os.any (λs=>decide (s=s0))=true then 1 else prE l
structure T9 (T:Nat->Option aq):Prop where
 ne:LG T
 cp:Il T
 f141:T 72=some f141
def RE{e:Env}(u:IsW w){k l m n:Operand}{g i j:Value}(h1:ev h e k=some (wV w))(r:ev h e l=some g)(s:ev h e m=some i)(t:ev h e n=some j)(c2:cellsOf g=[g])(o:cellsOf i=[i])(p:cellsOf j=[j]):
 jO h e [(.int .u64 0),(.int .u64 0),(.int .u64 0),(.int .u64 0),(.int .u64 0),(.int .u64 0),(.int .u64 0),(.int .u64 0),(.int .u64 0),(.int .u64 0),(.int .u64 0),(.int .u64 0),(.int .u64 0),(.int .u64 0),(.int .u64 0),(.int .u64 0),(.slice none 0 0),(.slice none 0 0),(.slice none 0 0),(.map none)] [(0,16,k),(16,1,l),(18,1,m),(19,1,n)]=some (quL w g (.slice none 0 0) i j):=by
 have f:=jB u;have q:cellsOf (wV w)=wL w:=by show(wL w).toArray.toList=_;simp
 have v:bS (wL w)=16:=by rw[cK,f]
 have y:dP [(.int .u64 0),(.int .u64 0),(.int .u64 0),(.int .u64 0),(.int .u64 0),(.int .u64 0),(.int .u64 0),(.int .u64 0),(.int .u64 0),(.int .u64 0),(.int .u64 0),(.int .u64 0),(.int .u64 0),(.int .u64 0),(.int .u64 0),(.int .u64 0),(.slice none 0 0),(.slice none 0 0),(.slice none 0 0),(.map none)] 0 (wL w)=wL w++[.slice none 0 0, .slice none 0 0, .slice none 0 0, .map none]:=by
  rw[gH (by rw[f];decide),f];rfl
 have z:dP (wL w++[.slice none 0 0, .slice none 0 0, .slice none 0 0, .map none]) 16 [g]=wL w++[g, .slice none 0 0, .slice none 0 0, .map none]:=by
  rw[gH (by rw[dk,f];simp),q9 ω,go ω,List.drop_append,xi (by simp;omega),f];simp
 have A:dP (wL w++[g, .slice none 0 0, .slice none 0 0, .map none]) 18 [i]=wL w++[g, .slice none 0 0,i, .map none]:=by
  rw[gH (by rw[dk,f];simp),List.take_append,go ω,List.drop_append,xi (by simp;omega),f];simp
 have B:dP (wL w++[g, .slice none 0 0,i, .map none]) 19 [j]=wL w++[g, .slice none 0 0,i,j]:=by
  rw[gH (by rw[dk,f];simp),List.take_append,go ω,List.drop_append,xi (by simp;omega),f];simp
 have x:∀a b c d:Value,bS (wL w++[a,b,c,d])=20:=λa b c d=>by rw[cK,dk,f];rfl
 simp only[jO,h1,r,s,t,q,c2,o,p,v,x,y,z,A,B];rfl
def JW(l:List Value):cellsOf (.agg l.toArray)=l:=by show l.toArray.toList=_;simp
def ZN(h:Heap)(w:List Nat×List Nat)(pv ov:Value)(e:Int)(v:Value)(h':Heap):Prop:=
 (e≠0/\v= .tuple #[.pointer none, zc e])∨(e=0/\∃q m,v= .tuple #[sb q, zc 0]/\h.next<=m/\m<q/\q<h'.next/\h'.get q=some (qt (quL w pv (.slice none 0 0) ov (.map (some m))))/\h'.get m=some (.map []))
def Mm(F:T9 T)(hr:Rdy h)(j:IsW w){x u:Value}{l:List Pb}(z:PbS h x l)(C:l.length<1000000)(y:SsQ h u os)(n:os.length<1000000):
 Al T 72 [wV w,x,u] h (ZN h w x u (mM w l os)):=by
 have o:=F.cp.p;refine .of o F.f141 hr ?_ ?_
 ·rintro v L E (q|⟨_,q,m,rfl,_⟩)
  ·exact .inl q
  ·cases E
 obtain⟨a,c,rfl⟩:=z.form;obtain⟨A,B,rfl⟩:=y.sl.form;have t:cellsOf (wV w)=wL w:=by show(wL w).toArray.toList=_;simp
 have k:Ext h (h.push (qt (cellsOf (wV w)))):=(Ext.refl h).push _;have K:(h.push (qt (cellsOf (wV w)))).get h.next=some (qt (wL w)):=by rw[t];exact z3 h _
 have M:(h.push (qt (cellsOf (wV w)))).next=h.next+1:=rfl
 refine Y5 ?_;generalize(h.push (qt (cellsOf (wV w))))=H at*;have W:=k.wf hr.wf;have f:=k.log.trans hr.log;have N:=ja j;have J:=gu j;have b:=Xk F.ne (h:=η H) (.of W) j;have d:=wX o F.ne.nd.f196 F.ne.nd.f257 (h:=η H) (.of W) ((y.ext k).log []) n (g:=59) (cap:=[]) (λs=>decide (s=s0)) λs D=>IL o F.cp.f90 (.of W) (y.ok s D);have i:=Rq F.cp (h:=η H) (.of W) ((z.ext k).log []) C;unfold mM;cases hin:sIn w.1 w.2 with
 |false=>
  rw[hin]at b;rw[if_pos rfl];refine Y4 ?_;refine FW.pu b ?_;refine Y9 ?_;exact cW f rfl (.inl ⟨by decide,rfl⟩)
 |true=>
 rw[hin]at b;rw[if_neg (by simp)];by_cases h6:6<os.length
 ·have G:zs os.length 6 true:=fh ω;rw[if_pos h6];refine Y4 ?_;refine FW.pu b ?_;refine Y18 ?_;exact cW f rfl (.inl ⟨by decide,rfl⟩)
 have G:zs os.length 6 false:=gT ω;rw[if_neg h6];cases ha:os.any (λs=>decide (s=s0))with
 |true=>
  rw[ha]at d;rw[if_pos rfl];refine Y4 ?_;refine FW.pu b ?_;refine Y18 ?_;refine FW.pu d ?_;refine Y8 ?_;exact cW f rfl (.inl ⟨by decide,rfl⟩)
 |false=>
 rw[ha]at d;rw[if_neg (by simp)];by_cases he:prE l=0
 ·rw[he]at i⊢;have I:zB 0 0 false:=rfl;refine Y4 ?_;refine FW.pu b ?_;refine Y18 ?_;refine FW.pu d ?_;refine Y8 ?_;refine FW.pu i ?_;clear b d i;refine Y13 ?_;refine aG Q9 ?_;refine aG (mS (RE j ρ ρ ρ ρ rfl rfl rfl)) ?_;have r:=JW (quL w (.slice a l.length c) (.slice none 0 0) (.slice A os.length B) (.map (some H.next)));refine Y5 ?_;refine cW f rfl (.inr ⟨rfl,_,_,rfl,?_,eA _,eA _,?_,?_⟩)
  ·show h.next<=H.next;omega
  ·rw[r];exact z3 _ _
  ·exact(z4 (eA _)).trans (z3 _ _)
 ·have I:zB (prE l) 0 true:=iY he;generalize prE l=e at*;refine Y4 ?_;refine FW.pu b ?_;refine Y18 ?_;refine FW.pu d ?_;refine Y8 ?_;refine FW.pu i ?_;refine Y14 ?_;exact cW f rfl (.inl ⟨he,rfl⟩)
end Go.A.Pk
end
