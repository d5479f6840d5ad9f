/- Walks of functions, plain laws, the table. -/
import Derived.Test.YtppgkemkfdkobaaGreatDoorGU0
import Derived.Test.YtppgkemkfdkobaaGreatDoorGD
import Derived.Test.YtppgkemkfdkobaaGreatDoorGV
import Derived.Test.YtppgkemkfdkobaaGreatDoorGF
set_option linter.all false
set_option maxHeartbeats 16000000
set_option maxRecDepth 100000
section
namespace Go.A.Pk
variable {T:Nat->Option aq}
def ints(l:List Int):List Value:=l.map λx=> zc x
def mB(l:List Int):(ints l).length=l.length:=by simp[ints]
structure Uf (T:Nat->Option aq):Prop where
 p:aK T
 f171:T 86=some f171
 f225:T 122=some f225
variable{h:Heap}{s:List Nat}
def Vf(F:Uf T)(hr:Rdy h)(e:IsS s)(c:Ce):Pu T 86 [sv s,ceV c] h (.bool (eU s c)):=by
 refine .of F.p F.f171 hr rfl ?_;have W:=(hr.wf.push (qt (cellsOf (sv s)))).push (qt (cellsOf (ceV c)));have C:=Bw F.p F.f225 (.of W) c;by_cases a:inG c=true
 ·obtain⟨z,i,f,d,rfl⟩:=iP a;rw[a]at C;rw[gi f d,←RU];have g:=jm (lU (s:=s) (i:=z) (by rw[e.len];exact f));have j:=vo (e.lV z) (vC d);have l:af .neq (.int .u64 ((Nat.land (s.getD z 0) (2 ^ i):Nat):Int)) (.int .u64 0)=some (.bool (decide (Nat.land (s.getD z 0) (2 ^ i)≠0))):=by
   rw[I7];by_cases q:Nat.land (s.getD z 0) (2 ^ i)=0
   ·rw[q];rfl
   ·rw[decide_eq_true q];have:((Nat.land (s.getD z 0) (2 ^ i):Nat):Int)≠0:=ω
    simp only[bne,beq_eq_false_iff_ne.2 this];rfl
  have m:vj 8 ((fk z i).y) (8*((i / 8:Nat):Int)):=zK (b:=((i / 8:Nat):Int)) ω ω;have n:zE (8*((i / 8:Nat):Int)) ((fk z i).x) ((i:Nat):Int):=fK (b:=((i % 8:Nat):Int)) (by rw[aO]<;>omega);have o:=Hf (k:= .u64) d;have r:fU .u64 ((i:Nat):Int)=((i:Nat):Int):=p9 ω;refine Y9 ?_;refine FW.puD C (by apply aB rfl;exact aQ) ?_;clear C;refine Y4 ?_;refine qZ9 (c:=cw ρ YG τ) (H:=?_);refine Y6 ?_;refine qZ9 (c:=yy ρ τ) (H:=?_);refine Y9 ?_;exact an hr.log rfl rfl
 ·have a:inG c=false:=by simpa using a
  rw[a]at C;rw[show eU s c=false by unfold eU;rw[a];rfl];refine Y9 ?_;refine FW.puD C (by apply aB rfl;exact aQ) ?_;clear C;refine Y21 ?_;exact an hr.log rfl rfl
def ceN(n:Nat):Ce:=⟨(n % 8:Nat),(n / 8 % 8:Nat),(n / 64:Nat)⟩
def ceS(l:List Ce):List Value:=l.flatMap ceL
def Rm(a b:List Ce):ceS (a++b)=ceS a++ceS b:=by simp[ceS]
def aW(s:List Nat)(n:Nat):List Ce:=((List.range n).map ceN).filter (eU s)
def uT(s:List Nat)(n:Nat):aW s (n+1)=aW s n++(if eU s (ceN n)then [ceN n]else []):=by
 unfold aW;rw[P2,A1,ac6];congr 1;simp only[xP,List.map_nil,PH,List.filter_nil]
def jd(s:List Nat)(n:Nat):(aW s n).length<=n:=by
 unfold aW;exact gy (Xs ..) (by simp)
structure Io (T:Nat->Option aq):Prop where
 hr:Uf T
 f170:T 50=some f170
def uR(F:Io T)(hr:Rdy h)(t:IsS s):Al T 50 [sv s] h λv c=>Own h.next c 3 v (aW s 512).length (ceS (aW s 512)):=by
 refine .of F.hr.p F.f170 hr ?_ ?_
 ·intro v h1 O q;generalize(aW s 512).length=m at q⊢;generalize ceS (aW s 512)=cs at q⊢;cases q with
  |nil=>exact .nil
  |full=>cases O
 have k8:=aN t.len;have k9:=aU t.len;have L:(h.push (qt (cellsOf (sv s)))).get h.next=some (qt (us s)):=z3 h _
 have Z:Ext h (h.push (qt (cellsOf (sv s)))):=(Ext.refl h).push _;have n0:(h.push (qt (cellsOf (sv s)))).next=h.next+1:=rfl
 refine Y4 ?_;generalize(h.push (qt (cellsOf (sv s))))=H at*;refine Y8 ?_;let J:=λ(n:Nat) (v:Value) (c:Heap)=>Ext h c∧h.next<c.next/\c.get h.next=some (qt (us s))/\Own (h.next+1) c 3 v (aW s n).length (ceS (aW s n))
 refine aY (λm e g c=>∃(z:Nat) (v:Value),z<=8/\m=8-z/\e=[(1, sb h.next),(3,v),(4, zc (z:Nat))]/\g=[]/\J (z*64) v c)
  ⟨0,_,ω,rfl,rfl,rfl,Z,ω,L, .nil⟩ ?_
 rintro m e g H1 ⟨z,v,U,rfl,rfl,rfl,u⟩;by_cases hz:z<8
 ·refine Y14 ?_
  refine aY (λm e g c=>∃(y:Nat) (v:Value),y<=8/\m=8-y/\e=[(1, sb h.next),(3,v),(4, zc (z:Nat)),(5, zc (y:Nat))]/\g=[]/\J (z*64+y*8) v c)
   ⟨0,v,ω,rfl,rfl,rfl,u⟩ ?_
  rintro m e g H2 ⟨y,v,S,rfl,rfl,rfl,A⟩;clear u;by_cases hy:y<8
  ·refine Y14 ?_
   refine aY (λm e g c=>∃(x:Nat) (v:Value),x<=8/\m=8-x/\e=[(1, sb h.next),(3,v),(4, zc (z:Nat)),(5, zc (y:Nat)),(6, zc (x:Nat))]/\g=[]/\J (z*64+y*8+x) v c)
    ⟨0,v,ω,rfl,rfl,rfl,A⟩ ?_
   rintro m e g j ⟨x,v,Q,rfl,rfl,rfl,G⟩;clear A;by_cases hx:x<8
   ·obtain⟨x3,V,D,o⟩:=G;refine Y10 ?_;refine cQ (E0:=[(1, sb h.next),(3,v),(4, zc (z:Nat)),(5, zc (y:Nat)),(6, zc (x:Nat)),(7, sb j.next)]) (P:=λc=>Ext j c∧c.next=j.next+1/\c.get j.next=some (qt (ceL ⟨(x:Nat),(y:Nat),(z:Nat)⟩))) ?_ ?_
    ·refine Y7 ?_;refine bA ?_;refine y1 ?_;exact⟨rfl,rfl,rfl,ff ω _ _,rfl,iW _ _⟩
    rintro k ⟨B,n4,g4⟩;have r:ceN (z*64+y*8+x)=⟨(x:Nat),(y:Nat),(z:Nat)⟩:=by
     unfold ceN;rw[show(z*64+y*8+x) % 8=x by omega,show(z*64+y*8+x) / 8 % 8=y by omega,show(z*64+y*8+x) / 64=z by omega]
    have f:=uT s (z*64+y*8+x);rw[r]at f;have N:=jd s (z*64+y*8+x);have a:=x3.trans B;have I:=a.wf hr.wf;have E:=(B.old _ V).trans D;have i:=o.ext B;generalize hce2:(⟨(x:Nat),(y:Nat),(z:Nat)⟩:Ce)=ce at*;have C:=Vf F.hr (.of I) t ce;have ck:cm 3 (bQ 0 (ceL ce))=ceL ce:=rfl;have K:Nat.beq (bS (ceL ce)) 3=true:=rfl;clear D o;refine Y4 ?_;refine FW.pu C ?_;clear C;cases l:eU s ce with
    |false=>
     rw[l,if_neg (by simp),wl]at f;refine Y10 ?_;refine⟨8-(x+1),ω,x+1,v,ω,rfl,rfl,rfl,a,ω,E,?_⟩;show Own _ _ _ _ (aW s (z*64+y*8+x+1)).length (ceS (aW s (z*64+y*8+x+1)));rw[f];exact i
    |true=>
     rw[l,if_pos rfl]at f;refine Y6 ?_;refine vM (lo:=h.next+1) (sz:=3) (v:=v) (c1:=ceL ce) (i.ext ((Ext.refl k).push _)) ω ω ω (by show h.next+1<=k.next+1;omega) ω ρ ρ (fA (cs:=ceL ce) YG rfl rfl) rfl rfl ?_;intro Y M X x5;have d:Lx (h.next+1) k M:=((Lx.refl (h.next+1) k).push ω _).trans x5;have W:=d.next
     refine yM ?_;refine bA ?_;refine Y8 ?_;refine⟨8-(x+1),ω,x+1,Y,ω,rfl,rfl,rfl,⟨gy a.next W,d.log.trans a.log,λb l=>(d.old b ω).trans (a.old b l),λw=>d.wf (a.wf w)⟩,ω,(d.old _ ω).trans E,?_⟩;show Own _ _ _ _ (aW s (z*64+y*8+x+1)).length (ceS (aW s (z*64+y*8+x+1)));rw[f,dk,Rm];have e:ceS [ce]=ceL ce:=by simp[ceS]
     rw[e];exact X
   ·obtain rfl:x=8:=ω
    refine Y17 ?_;refine⟨8-(y+1),ω,y+1,v,ω,rfl,rfl,rfl,?_⟩;rw[show z*64+(y+1)*8=z*64+y*8+8 by omega];exact G
  ·obtain rfl:y=8:=ω
   refine Y17 ?_;refine⟨8-(z+1),ω,z+1,v,ω,rfl,rfl,rfl,?_⟩;rw[show(z+1)*64=z*64+8*8 by omega];exact A
 ·obtain rfl:z=8:=ω
  obtain⟨x1,n1,g1,o⟩:=u;refine Y16 ?_;exact cW (x1.log.trans hr.log) rfl (o.low (Hm _))
def uz(s:List Nat)(z:Nat):List Ce:=(bitsOf (s.getD z 0)).map (fk z)
variable{z:Nat}
def Ct{i:Nat}(hi:i<64):ceN (z*64+i)=fk z i:=by
 unfold ceN fk;rw[show(z*64+i) % 8=i % 8 by omega,show(z*64+i) / 8 % 8=i / 8 by omega,show(z*64+i) / 64=z by omega]
def oN(s:List Nat)(c:z<8):aW s ((z+1)*64)=aW s (z*64)++uz s z:=by
 unfold aW uz bitsOf;rw[show(z+1)*64=z*64+64 by omega,List.range_add,A1,ac6];congr 1;rw[List.map_map,List.filter_map];have b:(List.range 64).filter (eU s ∘ (ceN ∘ λx=>z*64+x))=(List.range 64).filter (Nat.testBit (s.getD z 0)):=by
  apply HG;intro i a;have a:=List.mem_range.1 a;show eU s (ceN (z*64+i))=_;rw[Ct a,gi c a]
 rw[b];apply List.map_congr_left;intro i a;have a:=List.mem_range.1 (List.mem_filter.1 a).1;exact Ct a
variable{a b:List Nat}
def zl{f:Nat->Nat->Nat}(g:IsS a)(hb:IsS b)(c:z<8):(List.zipWith f a b).getD z 0=f (a.getD z 0) (b.getD z 0):=by
 have d:=lU (s:=a) (i:=z) (by rw[g.len];exact c);have e:=lU (s:=b) (i:=z) (by rw[hb.len];exact c);rw[dn,PQ,d,e];rfl
variable{c:Ce}
def gX(a:¬inG c=true):eU s c=false:=by
 unfold eU;rw[Bool.not_eq_true]at a;rw[a];rfl
def wM(f:IsS a)(hb:IsS b)(c:Ce):eU (gZ a b) c=(eU a c||eU b c):=by
 by_cases hc:inG c=true
 ·obtain⟨z,i,d,e,rfl⟩:=iP hc;rw[gi d e,gi d e,gi d e];unfold gZ tU;rw[zl f hb d];exact Nat.testBit_or ..
 ·rw[gX hc,gX hc,gX hc];rfl
def BQ(f:IsS a)(hb:IsS b)(c:Ce):eU (eX a b) c=(eU a c&& !eU b c):=by
 by_cases hc:inG c=true
 ·obtain⟨z,i,d,e,rfl⟩:=iP hc;rw[gi d e,gi d e,gi d e];unfold eX tU;rw[zl f hb d];simp only[vU];show Nat.testBit (a.getD z 0 ^^^ (a.getD z 0&&&b.getD z 0)) i=_;rw[Nat.testBit_xor,QP];cases (a.getD z 0).testBit i<;>cases (b.getD z 0).testBit i<;>rfl
 ·rw[gX hc,gX hc];rfl
def oE(c:Ce):eU s0 c=false:=by
 by_cases hc:inG c=true
 ·obtain⟨z,i,a,b,rfl⟩:=iP hc;rw[gi a b];have:∀z:Fin 8,s0.getD z.val 0=0:=by decide
  rw[this ⟨z,a⟩];exact Nat.zero_testBit i
 ·exact gX hc
def Km{n:Nat}(h:c∈aW s n):eU s c=true:=(List.mem_filter.1 h).2
structure Dou where
 c:Ce
 ids:List Int
 is:Bool
 e:Int
def c0:Ce:=⟨0,0,0⟩
end Go.A.Pk
end
section
namespace Go.A.Pk
variable {T:Nat->Option aq}
section
open I
end
variable{base:Nat}{rnd:Option Nat}{h:Heap}
def WE.E4{c:aZ}{Q:XQ}{e:Env}{a:Dfs}(b:∀hA,hA=h->WE T base rnd c Q e a hA):WE T base rnd c Q e a h:=b h rfl
variable{lo:Nat}
def Qw{Q:XQ}{e:Env}{i:Dfs}{sz a n:Nat}{dst:Option Nat}{os:List bg}{x y:Operand}{v u:Value}{cs c1:List Value}(s:Own lo h sz v n cs)(r:n<1000000)(g:0<sz)(hb:a<=100000)
 (l:ev h e x=some v)(m:ev h e y=some u)(k:dg h sz u=some (c1,1))(f:c1.length=sz)(h1:eN c1=true)
 (j:∀h',Own h.next h' sz (sh h.next (n+1) UNK) (n+1) (cs++c1)->h'.next=h.next+1->(∀z∈h'.log,lo<=z∨z∈h.log)->(WF h->WF h')->(∀z,z<h.next->z<lo->h'.get z=h.get z)->WO T base rnd Q os (cN e dst (sh h.next (n+1) UNK)) i h'):WO T base rnd Q (⟨dst, .append sz a x y,none⟩::os) e i h:=by
 have d:(2*(n+1)+768)*a<=281474976710656:=by
  have:(2*(n+1)+768)*a<=2000768*100000:=Hn ω hb;omega
 cases s with
 |nil=>
  refine aG (pF (n:=1) l m k ω (by simpa using d) rfl) ?_;exact j _ (Own.full (lo:=h.next) (h:=h.push (.cells c1 true sz)) (sz:=sz) (q:=h.next) (n:=1) (cs:=c1) (bl _) (eA _) (z3 _ _) ω ω) rfl (λz c=> .inr c) (λw=>w.push _) (λz c _=>z4 c)
 | @full q _ _ q1 q2 q3 q4 q5=>
   refine aG (jc (n:=1) (vs:=cs) (ws:=cs++c1) l m k ω q3 q4 g h1 d (dS _ _)) ?_;exact j _ (.full (bl _) (eA _) (z3 _ _) (by rw[dk,q4,f,Bo,ab5]) ω) rfl (λz c=>by
    rcases dW (b:=q) (o:= .dead) c with rfl|c
    ·exact .inl q1
    ·exact .inr c) (λw=>(w.as (AS.wr base _ q .dead)).push _) (λz c p=>(z4 (by exact c)).trans (z5 ω))
def Bm(s:List Nat){n:Nat}:∀m,∃r,aW s (n+m)=aW s n++r
 |0=>⟨[],by simp⟩
 |m+1=>by
  obtain⟨r,e⟩:=Bm s (n:=n) m;exact⟨r++(if eU s (ceN (n+m))then [ceN (n+m)]else []),by rw[←Nat.add_assoc,uT,e,At]⟩
structure Im (T:Nat->Option aq):Prop where
 p:aK T
 f123:T 54=some f123
 f213:T 95=some f213
 f214:T 96=some f214
 f264:T 127=some f264
 f265:T 128=some f265
 f266:T 129=some f266
structure PCe (l q:Nat) (H0:Heap) (L:bT) (done:List Ce) (H:Heap):Prop where
 old:∀z,z<q->H.get z=H0.get z
 loop:H.get l=some L
 nx:l<H.next
 val:∃v,H.get q=some (qt [v])/\Own (l+1) H 3 v done.length (ceS done)
def fnC(q0:Nat):Value:= .func (.func 128) #[] #[sb q0]
variable{s:List Nat}
def EH(F:Im T)(hr:Rdy h)(c:IsS s):
 Al T 96 [sv s] h λv h'=>∃q,v=fnC q/\h'.get q=some (qt (us s))/\h.next<=q/\q<h'.next:=by
 refine .of F.p F.f214 hr ?_ ?_
 ·rintro v b a ⟨q,rfl,_⟩;cases a
 refine Y9 ?_;exact cW hr.log rfl ⟨h.next,rfl,z3 _ _,bl _,eA _⟩
def Bk(F:Im T)(hr:Rdy h){q0 l N:Nat}(G:IsS s){P:List Ce->Heap->Prop}{S:Heap->Prop}(X:N<=h.next)(B:lo<=h.next)(ae:l<N)(Y:LO T lo N l ceV (aW s 512) P S)
 (g0:h.get q0=some (qt (us s)))(D:∀d H,P d H->Tab H)(h0:P [] h):
 GrX T 128 [.func (.yield l) #[] #[], sb q0] h lo (P (aW s 512)) S:=by
 have A:l<h.next:=ω
 have hp:=F.p;have k8:=aN G.len;have k9:=aU G.len;refine GrX.of (l:=l) hp F.f265 B A (λh1 h2 hn ha q=>Y.fS _ _ _ q (gy X hn) λx I=>ha x ω) Y.Jr ?_;refine Y5 ?_
 refine aY (λk e w t=>∃z:Nat,z<=8/\8-z=k/\e=[(0, .func (.yield l) #[] #[]),(6,sv s),(7, zc (z:Nat))]/\w=[]/\Lk lo h t∧P (aW s (z*64)) t)
  ⟨0,ω,rfl,rfl,rfl, .refl _ _,h0⟩ ?_
 rintro k e w t ⟨z,ar,rfl,rfl,rfl,g,j⟩;by_cases hz:z<8
 ·have e1:bN (us s).toArray.toList (z*1)=some (.int .u64 ((s.getD z 0:Nat):Int)):=by
   rw[Pi,xr,cC];unfold us;rw[wt,lU (by rw[G.len];exact hz)];rfl
  have W:=G.lV z;obtain⟨E,u⟩:∃r,aW s 512=aW s (z*64)++uz s z++r:=by
   obtain⟨r,e⟩:=Bm s (n:=(z+1)*64) (512-(z+1)*64);rw[show(z+1)*64+(512-(z+1)*64)=512 by omega,oN s hz]at e;exact⟨r,e⟩
  have i:=oN s hz;have U:uz s z=(bitsOf (s.getD z 0)).map (fk z):=rfl;generalize I:s.getD z 0=x0 at*;generalize uz s z=pl at*;refine Y11 ?_;refine aG (GA ρ ρ ω τ) ?_;refine Y4 ?_
  refine aY (λk e w y=>∃(x:Nat) (d:List Ce),x<U64/\d++(bitsOf x).map (fk z)=pl/\(bitsOf x).length=k/\e=[(0, .func (.yield l) #[] #[]),(3, zc (z:Nat)),(4, .int .u64 (x:Nat)),(6,sv s),(7, zc (z:Nat))]/\w=[]/\Lk lo h y∧P (aW s (z*64)++d) y)
   ⟨x0,[],W,by rw[U];rfl,rfl,rfl,rfl,g,by rw[wl];exact j⟩ ?_
  clear j g t;rintro k e w t ⟨x,d,f,o,rfl,rfl,rfl,g,j⟩;by_cases I:x=0
  ·subst I;rw[EE]at o;have o:d=pl:=by simpa using o
   subst o;rw[←i]at j;refine Y16 ?_;exact⟨8-(z+1),ω,z+1,ω,rfl,rfl,rfl,g,j⟩
  ·obtain⟨b,m,c⟩:=FC x I;have Z:=(CR c f).1;have v:=ED c f;have m1:af .neq (.int .u64 (x:Nat)) (.int .u64 0)=some (.bool true):=iY ω;have C:=ZD F.p F.f266 (h:=η t) (.of (g.wf hr.wf)) (show Tab t from D _ _ j) f c;have m2:af .rem (zc (b:Nat)) (zc 8)=some (zc ((b % 8:Nat):Int)):=Vt;have m3:af .quo (zc (b:Nat)) (zc 8)=some (zc ((b / 8:Nat):Int)):=Vs ω;have m4:af .sub (.int .u64 (x:Nat)) (.int .u64 1)=some (.int .u64 ((x-1:Nat):Int)):=jD (by rw[show(x:Int)-1=((x-1:Nat):Int)by omega];exact p9 (by unfold U64 at f;omega));have m5:=vo (a:=x) (b:=x-1) f (xj (Nat.sub_le x 1) f);rw[v]at o⊢;have O:Nat.land x (x-1)<U64:=CO f;generalize Nat.land x (x-1)=x' at*;rw[xP]at o;have V:aW s 512=(aW s (z*64)++d)++fk z b::((bitsOf x').map (fk z)++E):=by
    rw[u,←o];simp
   refine Y13 ?_;refine FW.pu C ?_;clear C;refine Y10 ?_;refine oK (fn:= .yield l) (args:=[ceV (fk z b)]) ρ ?_;refine Y.call hp (by rw[V];simp) (g.wf hr.wf) (gy B g.next) (gy X g.next) A j ?_ ?_
   rotate_left
   ·intro h9 M Q K;refine Y12 ?_;exact MV ((g.trans M).log (by rw[hr.log];exact fD.nil _)) rfl Q K
   intro h2 L _ J;refine Y13 ?_;exact⟨(bitsOf x').length,by simp,x',d++[fk z b],O,by rw[←o];simp,rfl,rfl,rfl,g.trans L,by rw[←List.append_assoc];exact J⟩
 ·obtain rfl:z=8:=ω
  refine Y9 ?_;exact MU (g.log (by rw[hr.log];exact fD.nil _)) rfl j
end Go.A.Pk
end
section
namespace Go.A.Pk
variable {T:Nat->Option aq}
structure Bx where
 lo:Ce
 hi:Ce
 deriving DecidableEq
def bxL(b:Bx):List Value:=ceL b.lo++ceL b.hi
def bxV(b:Bx):Value:= .agg (bxL b).toArray
def rH(b:Bx)(c:Ce):Bx:=⟨⟨mi b.lo.x c.x,mi b.lo.y c.y,mi b.lo.z c.z⟩,⟨mx b.hi.x c.x,mx b.hi.y c.y,mx b.hi.z c.z⟩⟩
def bx0:Bx:=⟨⟨7,7,7⟩,⟨0,0,0⟩⟩
def bxS(l:List Ce):Bx:=l.foldl rH bx0
def Mq(l:List Ce)(c:Ce):bxS (l++[c])=rH (bxS l) c:=by unfold bxS;rw[yr];rfl
section
open I
def yH:aZ:=I.R [g 5 (.new [O,O,O]),S 3 5 16] [4,5]
def yK:aZ:=(.block 1 (Q (I.R [A 17 0 4,A 18 3 4,M 6 17,M 7 18] [5,6,7]) (Q (.draw [M 19 6,M 20 6,M 21 6,M 22 6,g 23 (.cT (t 22)),A 24 0 23,L 25 24,A 26 0 5,L 27 26,g 28 (.ej false [(t 25),(t 27)]),M 29 6,g 30 (.cT (t 29)),A 31 1 30,L 32 31,A 33 1 5,L 34 33,g 35 (.ej false [(t 32),(t 34)]),M 36 6,g 37 (.cT (t 36)),A 38 2 37,L 39 38,A 40 2 5,L 41 40,g 42 (.ej false [(t 39),(t 41)]),g 43 (.cT (t 19)),A 44 0 43,S 1 44 28,g 45 (.cT (t 20)),A 46 1 45,S 1 46 35,g 47 (.cT (t 21)),A 48 2 47,S 1 48 42] [0,1,2,3,4,5,6,7,8,9,10,11,12,13,14,15,16,17,18,19,20,21,22,23,24,25,26,27,28,29,30,31,32] [0,0,0,0,8,24,56,0,128,504,0,1024,3072,7168,0,16384,64512,0,131072,393216,917504,0,2097152,8257536,1982457,18759673,52314105,119537659,253755387,522190843,1073741823,2147483647,4294967295] [5,7])
 (.draw [M 49 7,M 50 7,M 51 7,M 52 7,g 53 (.cT (t 52)),A 54 0 53,L 55 54,A 56 0 5,L 57 56,g 58 (.ej true [(t 55),(t 57)]),M 59 7,g 60 (.cT (t 59)),A 61 1 60,L 62 61,A 63 1 5,L 64 63,g 65 (.ej true [(t 62),(t 64)]),M 66 7,g 67 (.cT (t 66)),A 68 2 67,L 69 68,A 70 2 5,L 71 70,g 72 (.ej true [(t 69),(t 71)]),g 73 (.cT (t 49)),A 74 0 73,S 1 74 58,g 75 (.cT (t 50)),A 76 1 75,S 1 76 65,g 77 (.cT (t 51)),A 78 2 77,S 1 78 72] [0,1,2,3,4,5,6,7,8,9,10,11,12,13,14,15,16,17,18,19,20,21,22,23,24,25,26,27,28,29,30,31,32] [0,0,0,0,8,24,56,0,128,504,0,1024,3072,7168,0,16384,64512,0,131072,393216,917504,0,2097152,8257536,1982457,18759673,52314105,119537659,253755387,522190843,1073741823,2147483647,4294967295] []))))
end
def Ms(L:aK T){H:Heap}(hr:Rdy H){q l lo N:Nat}{F u:Value}{b:Bx}{c:Ce}(C:lo<=q)(M:q<l)(B:l<N)
 (gl:H.get l=some (.loop [(2,u),(4, sb q),(15,F)] [16] yH yK 0 .normal))
 (v:H.get q=some (qt (bxL b))){S:Heap->Prop}:
 FW T (.yield l) [ceV c] H λr p=>(∀z∈p.log,lo<=z/\z<N)/\(r= .ret (.bool true)/\(p.get q=some (qt (bxL (rH b c)))/\(∀z,z<H.next->z≠q->p.get z=H.get z)/\H.next<=p.next)∨r= .ret (.bool false)/\l∈p.log/\S p):=by
 have I:q≠l:=ω
 have G:=hr.wf.dJ v;have O:=hr.wf.dJ gl;refine FW.QT L (R:=λp=>p.get q=some (qt (bxL (rH b c)))/\(∀z,z<H.next->z≠q->p.get z=H.get z)/\H.next<=p.next) gl rfl O ⟨ω,B⟩ ?_;unfold yH;refine Y3 ?_;refine bA ?_;refine y1 ?_;refine⟨rfl,YG,?_⟩;unfold yK;refine oe ?_;refine WE.E4 ?_;intro m j;have E:∀z,z<H.next->z≠l->H.get z=m.get z:=λz g x=>by rw[j];symm;simp(disch:=first|omega|(simp only[z1,z2];omega))only[z5,z4]
 have y:m.get H.next=some (qt (ceL c)):=by rw[j];(simp(disch:=first|omega|(simp only[z1,z2];omega))only[z3,z4,z5,z6,z7,z1,z2,gl,v];exact rfl)
 have P:m.get l=some (.loop [(2,u),(4, sb q),(15,F)] [16] yH yK 1 .normal):=by rw[j];(simp(disch:=first|omega|(simp only[z1,z2];omega))only[z3,z4,z5,z6,z7,z1,z2,gl,v,y];exact rfl)
 have Q:m.next=H.next+1:=by rw[j];rfl
 have J:m.log=[]:=by rw[j];simp(disch:=first|omega|(simp only[z1,z2];omega))only[Heap.aA,Heap.zH];exact hr.log
 have U:WF m:=by rw[j];exact(((hr.wf.push _).as (AS.wr _ _ _ _)).as (AS.wr _ _ _ _))
 clear j;have s:=(E q G I).symm.trans v;obtain⟨⟨n,a,e⟩,⟨o,d,f⟩⟩:=b;obtain⟨i,k,t⟩:=c;unfold bxL ceL at s;dsimp only[SW,D4]at s;unfold ceL at y;dsimp only at y;clear v;refine Y34 ?_;refine iB (vs:=[zc n, zc a, zc e, zc o, zc d, zc f]) (ws:=[zc (mi n i), zc a, zc e, zc o, zc d, zc f]) rfl rfl rfl ρ ρ ρ (s) ρ ρ (by show q<m.next;omega) (by(repeat apply aB rfl);apply au rfl (ah rfl (Cj ρ ρ) (by exact dh _ _)) rfl;apply au rfl (ah rfl (cw ρ YG ρ) (by exact dh _ _)) rfl;apply au rfl (ah rfl (dL ρ) (by exact bh _)) rfl;(repeat apply aB rfl);apply au rfl (ah rfl (Cj ρ ρ) (by exact dh _ _)) rfl;apply au rfl (ah rfl (cw ρ YG ρ) (by exact dh _ _)) rfl;apply au rfl (ah rfl (dL ρ) (by exact bh _)) rfl;(repeat apply aB rfl);apply au rfl (ah rfl (dM ρ) (by exact bh _)) rfl;apply au rfl (ah rfl (dM ρ) (by exact bh _)) rfl;apply aB rfl;exact aQ) ?_;refine Y2 ?_;refine iB (vs:=[zc (mi n i), zc a, zc e, zc o, zc d, zc f]) (ws:=[zc (mi n i), zc (mi a k), zc e, zc o, zc d, zc f]) rfl rfl rfl ρ ρ ρ (Heap.aM (s)) ρ ρ (by show q<m.next;omega) (by(repeat apply aB rfl);apply au rfl (ah rfl (Cj ρ ρ) (by exact dh _ _)) rfl;apply au rfl (ah rfl (cw ρ YG ρ) (by exact dh _ _)) rfl;apply au rfl (ah rfl (dL ρ) (by exact bh _)) rfl;(repeat apply aB rfl);apply au rfl (ah rfl (dM ρ) (by exact bh _)) rfl;apply aB rfl;exact aQ) ?_;refine Y2 ?_;refine iB (vs:=[zc (mi n i), zc (mi a k), zc e, zc o, zc d, zc f]) (ws:=[zc (mi n i), zc (mi a k), zc (mi e t), zc o, zc d, zc f]) rfl rfl rfl ρ ρ ρ (Heap.aM (Heap.aM (s))) ρ ρ (by show q<m.next;omega) (by(repeat apply aB rfl);exact aQ) ?_;refine Y30 ?_;refine iB (vs:=[zc (mi n i), zc (mi a k), zc (mi e t), zc o, zc d, zc f]) (ws:=[zc (mi n i), zc (mi a k), zc (mi e t), zc (mx o i), zc d, zc f]) rfl rfl rfl ρ ρ ρ (Heap.aM (Heap.aM (Heap.aM (s)))) ρ ρ (by show q<m.next;omega) (by(repeat apply aB rfl);apply au rfl (ah rfl (Eo ρ ρ) (by exact dh _ _)) rfl;apply au rfl (ah rfl (cw ρ YG ρ) (by exact dh _ _)) rfl;apply au rfl (ah rfl (dL ρ) (by exact bh _)) rfl;(repeat apply aB rfl);apply au rfl (ah rfl (Eo ρ ρ) (by exact dh _ _)) rfl;apply au rfl (ah rfl (cw ρ YG ρ) (by exact dh _ _)) rfl;apply au rfl (ah rfl (dL ρ) (by exact bh _)) rfl;(repeat apply aB rfl);apply au rfl (ah rfl (dM ρ) (by exact bh _)) rfl;apply au rfl (ah rfl (dM ρ) (by exact bh _)) rfl;apply aB rfl;exact aQ) ?_;refine Y2 ?_;refine iB (vs:=[zc (mi n i), zc (mi a k), zc (mi e t), zc (mx o i), zc d, zc f]) (ws:=[zc (mi n i), zc (mi a k), zc (mi e t), zc (mx o i), zc (mx d k), zc f]) rfl rfl rfl ρ ρ ρ (Heap.aM (Heap.aM (Heap.aM (Heap.aM (s))))) ρ ρ (by show q<m.next;omega) (by(repeat apply aB rfl);apply au rfl (ah rfl (Eo ρ ρ) (by exact dh _ _)) rfl;apply au rfl (ah rfl (cw ρ YG ρ) (by exact dh _ _)) rfl;apply au rfl (ah rfl (dL ρ) (by exact bh _)) rfl;(repeat apply aB rfl);apply au rfl (ah rfl (dM ρ) (by exact bh _)) rfl;apply aB rfl;exact aQ) ?_;refine Y2 ?_;refine iB (vs:=[zc (mi n i), zc (mi a k), zc (mi e t), zc (mx o i), zc (mx d k), zc f]) (ws:=[zc (mi n i), zc (mi a k), zc (mi e t), zc (mx o i), zc (mx d k), zc (mx f t)]) rfl rfl rfl ρ ρ ρ (Heap.aM (Heap.aM (Heap.aM (Heap.aM (Heap.aM (s)))))) ρ ρ (by show q<m.next;omega) (by(repeat apply aB rfl);exact aQ) ?_;refine Y3 ?_;refine⟨⟨_,YG,rfl⟩,λz g=> ?_, .inl ⟨rfl,λV K w A=> ?_⟩⟩
 ·have D:z=q:=by
   rcases dW g with h|g
   ·exact h
   rcases dW g with h|g
   ·exact h
   rcases dW g with h|g
   ·exact h
   rcases dW g with h|g
   ·exact h
   rcases dW g with h|g
   ·exact h
   rcases dW g with h|g
   ·exact h
   rw[J]at g;cases g
  subst D;exact⟨C,ω⟩
 ·refine⟨(w q G I).trans (Heap.aM (Heap.aM (Heap.aM (Heap.aM (Heap.aM (Heap.aM (s))))))),λz g x=> ?_,K⟩;by_cases hl:z=l
  ·subst hl;rw[gl];exact A
  ·refine(w z g hl).trans ?_;refine Eq.trans ?_ (E z g hl).symm;simp only[z5 x]
structure PXo (l q:Nat) (H0:Heap) (L:bT) (f:List Ce->List Value) (done:List Ce) (H:Heap):Prop where
 old:∀z,z<l->z≠q->H.get z=H0.get z
 loop:H.get l=some L
 val:H.get q=some (qt (f done))
def PXo.fS{l q:Nat}{c:Heap}{L:bT}{f:List Ce->List Value}(e:q<l)(done:List Ce)(H a:Heap)(p:PXo l q c L f done H)(_:l+1<=a.next)(h:∀x,x<l+1->a.get x=H.get x):PXo l q c L f done a:=
 ⟨λz d b=>(h z ω).trans (p.old z d b),(h l ω).trans p.loop,(h q ω).trans p.val⟩
def cA(s:List Nat):Bx×Bool:=if s=s0 then(⟨c0,c0⟩,false)else(bxS (aW s 512),true)
def JQ(p:Bx×Bool):Value:= .tuple #[bxV p.1, .bool p.2]
structure Ua (T:Nat->Option aq):Prop where
 cp:Im T
 f210:T 132=some f210
variable{h:Heap}
def Bi(F:Ua T)(hr:Rdy h)(hg:Tab h)(h2:0<h.next){s:List Nat}(j:IsS s):Pu T 132 [sv s] h (JQ (cA s)):=by
 have Z:=F.cp.p;refine .of Z F.f210 hr rfl ?_;have k8:=aN j.len;have k9:=aU j.len;have L:Ext h ((h.push (qt (cellsOf (sv s)))).push (qt [I.O,I.O,I.O,I.O,I.O,I.O])):=((Ext.refl h).push _).push _;have U:((h.push (qt (cellsOf (sv s)))).push (qt [I.O,I.O,I.O,I.O,I.O,I.O])).get h.next=some (qt (us s)):=(z4 (eA _)).trans (z3 h _)
 have V:((h.push (qt (cellsOf (sv s)))).push (qt [I.O,I.O,I.O,I.O,I.O,I.O])).get (h.next+1)=some (qt [I.O,I.O,I.O,I.O,I.O,I.O]):=z3 _ _;have n0:((h.push (qt (cellsOf (sv s)))).push (qt [I.O,I.O,I.O,I.O,I.O,I.O])).next=h.next+2:=rfl
 refine Y5 ?_;generalize((h.push (qt (cellsOf (sv s)))).push (qt [I.O,I.O,I.O,I.O,I.O,I.O]))=H at*;have W:=L.wf hr.wf;have hL:=L.log.trans hr.log;unfold cA;by_cases he:s=s0
 ·rw[if_pos he];have u:cm 6 (bQ 0 (bxL ⟨c0,c0⟩))=bxL ⟨c0,c0⟩:=rfl;refine Y4 ?_;refine aG (jK (b:=s0) ρ ρ j.len rfl) ?_;rw[decide_eq_true he];refine Y9 ?_;refine an ?_ (bV (own:=true) (s:=1) (l:=bxL ⟨c0,c0⟩) rfl ?_ u rfl rfl) rfl
  ·rw[Heap.aA (by show h.next<=h.next+1;omega)];exact hL
  ·exact YG
 ·rw[if_neg he];have r:=ff (h:=H) (base:=h.next) ω (qt [I.O,I.O,I.O,I.O,I.O,I.O]) (qt (bxL bx0));have J:=iW (h:=H) (base:=h.next) [I.O,I.O,I.O,I.O,I.O,I.O] (bxL bx0);refine Y4 ?_;refine aG (jK (b:=s0) ρ ρ j.len rfl) ?_;rw[decide_eq_false he];refine Y4 ?_;refine cQ (E0:=[(1, sb h.next),(2, sb (h.next+1)),(4, sb H.next)]) (P:=λn=>Ext H n∧n.next=H.next+1/\n.get H.next=some (qt (bxL bx0))) ?_ ?_
  ·refine Y5 ?_;refine bA ?_;refine y1 ?_;exact⟨rfl,rfl,rfl,ff ω _ _,rfl,iW _ _⟩
  rintro M ⟨r,n1,J⟩;have c:=L.trans r;have W1:=c.wf hr.wf;have ae:=c.log.trans hr.log;have ga:=(r.old _ ω).trans U;have X:=(r.old _ ω).trans V;have C:=EH F.cp (h:=η M) (.of W1) j;clear U V;refine Y4 ?_;refine FW.al C (λv n m q=>q) ?_;rintro _ a t ⟨q,rfl,gq,q2,q3⟩;clear C;have q2:M.next<=q:=q2
  have f:=c.trans t;have Q:=f.wf hr.wf;have A:=f.log.trans hr.log;have n2:=t.next
  have y:=(t.old _ ω).trans X;have K:=(t.old _ ω).trans J;have B:Tab a:=hg.ext f h2;clear ga X J;refine Y2 ?_;refine Cc (lo:=H.next) (P:=PXo a.next H.next a (.loop [(2, sb (h.next+1)),(4, sb H.next),(15,fnC q)] [16] yH yK 0 .normal) (λd=>bxL (bxS d)) (aW s 512)) (S:=λ_=>False) rfl ρ (by rw[F.cp.f265];rfl) ω ω A Q ?_ (λH p=>⟨_,_,_,_,p.loop⟩) (λH p=>p.elim) ?_ (λ_ _ _ _ _ _ _ p=>p.elim)
  ·have Y:LO T H.next (a.next+1) a.next ceV (aW s 512) (PXo a.next H.next a (.loop [(2, sb (h.next+1)),(4, sb H.next),(15,fnC q)] [16] yH yK 0 .normal) (λd=>bxL (bxS d))) (λ_=>False):=by
    refine⟨λdone x Hh hx E hN i=> ?_,PXo.fS ω,λ_ _ h=>h,λ_ h=>h.elim⟩;refine FW.mono' (Ms Z E (lo:=H.next) (N:=a.next+1) (S:=λ_=>False) (bl _) ω ω i.loop i.val) ?_;rintro r' H' ⟨r1,r2⟩;refine⟨r1,r2.imp (λ⟨e,g,o,_⟩=>⟨e,λz G k=>(o z ω k).trans (i.old z G k),(o _ ω ω).trans i.loop,?_⟩) id⟩;rw[Mq];exact g
   exact Bk F.cp (.of (Q.push _)) (q0:=q) (l:=a.next) (N:=a.next+1) (lo:=H.next) j (bl _) (by show H.next<=a.next+1;omega) (eA _) Y ((z4 ω).trans gq) (λd H' i=>(i.old 0 ω ω).trans B)
    ⟨λz G _=>z4 G,z3 _ _,(z4 ω).trans K⟩
  intro h4 h5 k1 k2 k3 k4 k5 i;have D:=(k5 H.next ω).trans i.val;have D2:=(k5 (h.next+1) ω).trans ((i.old _ ω ω).trans y);generalize bxS (aW s 512)=b at*;have ck:cm 6 (bQ 0 (bxL b))=bxL b:=rfl;have w:Nat.beq (bS (bxL b)) 6=true:=rfl;refine Y8 ?_;refine an ?_ (bV (own:=true) (s:=1) (l:=bxL b) rfl ?_ ck w rfl) rfl
  ·rw[Heap.aA (by show h.next<=h.next+1;omega)];exact k1
  ·exact YG
def eE:Nat->Ce->Ce
 |0,c=>c
 |1,c=>⟨c.x,7-c.z,c.y⟩
 |2,c=>⟨c.x,7-c.y,7-c.z⟩
 |3,c=>⟨c.x,c.z,7-c.y⟩
 |4,c=>⟨c.z,c.y,7-c.x⟩
 |_,c=>⟨7-c.z,c.y,c.x⟩
def HU(c:Ce):Ce:=⟨7-c.y,c.x,c.z⟩
def qR:Nat->Ce->Ce
 |0,c=>c
 |n+1,c=>HU (qR n c)
def gQ(t:Nat)(c:Ce):Ce:=qR (t % 4) (eE (t / 4) c)
structure InB (c:Ce):Prop where
 x:0<=c.x/\c.x<=7
 y:0<=c.y/\c.y<=7
 z:0<=c.z/\c.z<=7
def lW{c:Ce}:inG c=true↔InB c:=by
 unfold inG;rw[decide_eq_true_eq];exact⟨λh=>⟨h.1,h.2.1,h.2.2⟩,λh=>⟨h.x,h.y,h.z⟩⟩
def InB.Wg{c:Ce}(h:InB c)(k:Nat):InB (eE k c):=by
 obtain⟨a,b,d⟩:=h;unfold eE;split<;>(constructor<;>(first|omega|(dsimp only;omega)))
def InB.rot{c:Ce}(h:InB c):∀n,InB (qR n c)
 |0=>h
 |n+1=>by
  obtain⟨h1,h2,h3⟩:=h.rot n;unfold qR HU;exact⟨by dsimp only;omega,h1,h3⟩
def InB.abC{c:Ce}(h:InB c)(t:Nat):InB (gQ t c):=(h.Wg _).rot _
def dV{a:Int}(h:0<=a/\a<=7):vi 7 a (7-a):=jD (aO ω ω)
def NT{a:Nat}:af .rem (zc a) (zc 4)=some (zc ((a % 4:Nat):Int)):=by
 have e:(a:Int).tmod 4=((a % 4:Nat):Int):=by rw[Int.tmod_eq_emod_of_nonneg ω];omega
 simp[af,arith,e]
def NS{a:Nat}(h1:a<9223372036854775808):af .quo (zc a) (zc 4)=some (zc ((a / 4:Nat):Int)):=by
 have e:fU .i64 ((a:Int).tdiv 4)=((a / 4:Nat):Int):=by
  rw[Int.tdiv_eq_ediv_of_nonneg ω,aO ω ω];omega
 have b:af .quo (zc a) (zc 4)=some (zc (fU .i64 ((a:Int).tdiv 4))):=rfl;rw[b,e]
structure uL (T:Nat->Option aq):Prop where
 p:aK T
 f263:T 155=some f263
 f317:T 173=some f317
 f318:T 174=some f318
 f319:T 175=some f319
 f320:T 176=some f320
 f321:T 177=some f321
 f322:T 178=some f322
def Zo(F:uL T)(hr:Rdy h)(v:Value){c:Ce}(j:InB c):Pu T 173 [v,ceV c] h (ceV (eE 0 c)):=by
 refine .of F.p F.f317 hr rfl ?_;obtain⟨a,b,d⟩:=c;obtain⟨e,f,g⟩:=j;dsimp only at e f g;have mx:=dV e;have k:=dV f;have l:=dV g;have i:cm 3 (bQ 0 (ceL (eE 0 ⟨a,b,d⟩)))=ceL (eE 0 ⟨a,b,d⟩):=rfl;refine Y9 ?_;refine an ?_ (bV (own:=true) (s:=1) rfl ?_ i rfl rfl) rfl
 ·rw[Heap.aA (by show h.next<=h.next+1;omega)];exact hr.log
 ·exact YG
def Zp(F:uL T)(hr:Rdy h)(v:Value){c:Ce}(j:InB c):Pu T 174 [v,ceV c] h (ceV (eE 1 c)):=by
 refine .of F.p F.f318 hr rfl ?_;obtain⟨a,b,d⟩:=c;obtain⟨e,f,g⟩:=j;dsimp only at e f g;have mx:=dV e;have k:=dV f;have l:=dV g;have i:cm 3 (bQ 0 (ceL (eE 1 ⟨a,b,d⟩)))=ceL (eE 1 ⟨a,b,d⟩):=rfl;refine Y16 ?_;refine an ?_ (bV (own:=true) (s:=1) rfl ?_ i rfl rfl) rfl
 ·rw[Heap.aA (by show h.next<=h.next+1;omega)];exact hr.log
 ·exact YG
def Zq(F:uL T)(hr:Rdy h)(v:Value){c:Ce}(j:InB c):Pu T 175 [v,ceV c] h (ceV (eE 2 c)):=by
 refine .of F.p F.f319 hr rfl ?_;obtain⟨a,b,d⟩:=c;obtain⟨e,f,g⟩:=j;dsimp only at e f g;have mx:=dV e;have k:=dV f;have l:=dV g;have i:cm 3 (bQ 0 (ceL (eE 2 ⟨a,b,d⟩)))=ceL (eE 2 ⟨a,b,d⟩):=rfl;refine Y17 ?_;refine an ?_ (bV (own:=true) (s:=1) rfl ?_ i rfl rfl) rfl
 ·rw[Heap.aA (by show h.next<=h.next+1;omega)];exact hr.log
 ·exact YG
def Zr(F:uL T)(hr:Rdy h)(v:Value){c:Ce}(j:InB c):Pu T 176 [v,ceV c] h (ceV (eE 3 c)):=by
 refine .of F.p F.f320 hr rfl ?_;obtain⟨a,b,d⟩:=c;obtain⟨e,f,g⟩:=j;dsimp only at e f g;have mx:=dV e;have k:=dV f;have l:=dV g;have i:cm 3 (bQ 0 (ceL (eE 3 ⟨a,b,d⟩)))=ceL (eE 3 ⟨a,b,d⟩):=rfl;refine Y16 ?_;refine an ?_ (bV (own:=true) (s:=1) rfl ?_ i rfl rfl) rfl
 ·rw[Heap.aA (by show h.next<=h.next+1;omega)];exact hr.log
 ·exact YG
def Zt(F:uL T)(hr:Rdy h)(v:Value){c:Ce}(j:InB c):Pu T 177 [v,ceV c] h (ceV (eE 4 c)):=by
 refine .of F.p F.f321 hr rfl ?_;obtain⟨a,b,d⟩:=c;obtain⟨e,f,g⟩:=j;dsimp only at e f g;have mx:=dV e;have k:=dV f;have l:=dV g;have i:cm 3 (bQ 0 (ceL (eE 4 ⟨a,b,d⟩)))=ceL (eE 4 ⟨a,b,d⟩):=rfl;refine Y16 ?_;refine an ?_ (bV (own:=true) (s:=1) rfl ?_ i rfl rfl) rfl
 ·rw[Heap.aA (by show h.next<=h.next+1;omega)];exact hr.log
 ·exact YG
def Zu(F:uL T)(hr:Rdy h)(v:Value){c:Ce}(j:InB c):Pu T 178 [v,ceV c] h (ceV (eE 5 c)):=by
 refine .of F.p F.f322 hr rfl ?_;obtain⟨a,b,d⟩:=c;obtain⟨e,f,g⟩:=j;dsimp only at e f g;have mx:=dV e;have k:=dV f;have l:=dV g;have i:cm 3 (bQ 0 (ceL (eE 5 ⟨a,b,d⟩)))=ceL (eE 5 ⟨a,b,d⟩):=rfl;refine Y16 ?_;refine an ?_ (bV (own:=true) (s:=1) rfl ?_ i rfl rfl) rfl
 ·rw[Heap.aA (by show h.next<=h.next+1;omega)];exact hr.log
 ·exact YG
def Zv(F:uL T)(hr:Rdy h)(v:Value){c:Ce}(a:InB c):∀k,k<6->Pu T (173+k) [v,ceV c] h (ceV (eE k c))
 |0,_=>Zo F hr v a
 |1,_=>Zp F hr v a
 |2,_=>Zq F hr v a
 |3,_=>Zr F hr v a
 |4,_=>Zt F hr v a
 |5,_=>Zu F hr v a
 |k+6,h=>ω
def xD(k:Nat):Value:= .func (.func (173+k)) #[zc 0] #[]
def PA:List Value:=[xD 0,xD 1,xD 2,xD 3,xD 4,xD 5]
def PB:∀k,k<6->bN PA (0+k*1)=some (xD k)
 |0,_=>rfl
 |1,_=>rfl
 |2,_=>rfl
 |3,_=>rfl
 |4,_=>rfl
 |5,_=>rfl
 |k+6,h=>ω
def Lm(F:uL T)(hr:Rdy h){c:Ce}(B:InB c){t:Nat}(ht:t<24):Pu T 155 [ceV c, zc (t:Nat)] h (ceV (gQ t c)):=by
 refine .of F.p F.f263 hr rfl ?_;have q:Ext h ((h.push (qt (cellsOf (ceV c)))).push (qt [I.O,I.O,I.O])):=((Ext.refl h).push _).push _;have z:((h.push (qt (cellsOf (ceV c)))).push (qt [I.O,I.O,I.O])).get h.next=some (qt (ceL c)):=(z4 (eA _)).trans (z3 h _)
 have A:((h.push (qt (cellsOf (ceV c)))).push (qt [I.O,I.O,I.O])).get (h.next+1)=some (qt [I.O,I.O,I.O]):=z3 _ _;have n0:((h.push (qt (cellsOf (ceV c)))).push (qt [I.O,I.O,I.O])).next=h.next+2:=rfl
 refine Y4 ?_;generalize((h.push (qt (cellsOf (ceV c)))).push (qt [I.O,I.O,I.O]))=H at*;have W:=q.wf hr.wf;have hL:=q.log.trans hr.log;refine Y3 ?_;refine cQ (E0:=[(1, zc (t:Nat)),(2, sb h.next),(4, sb (h.next+1)),(6, sb H.next)]) (P:=λf=>Ext H f∧f.next=H.next+1/\f.get H.next=some (qt PA)) ?_ ?_
 ·refine Y16 ?_;refine bA ?_;refine y1 ?_;exact⟨rfl,rfl,rfl,ff ω _ _,rfl,iW _ _⟩
 rintro v ⟨u,n1,q1⟩;have a:=q.trans u;have G:=a.wf hr.wf;have U:=a.log.trans hr.log;have M:=(u.old _ ω).trans z;have N:=(u.old _ ω).trans A;have D:t / 4<6:=ω
 have m1:af .quo (zc (t:Nat)) (zc 4)=some (zc ((t / 4:Nat):Int)):=NS ω;have m2:af .rem (zc (t:Nat)) (zc 4)=some (zc ((t % 4:Nat):Int)):=NT;have L:=PB (t / 4) D;have C:=Zv F (h:=η v) (.of G) (zc 0) B (t / 4) D;have l:=B.Wg (t / 4);have X:t % 4<4:=ω
 have ck:cm 3 (bQ 0 (ceL c))=ceL c:=rfl;have K:Nat.beq (bS (ceL c)) 3=true:=rfl;unfold gQ;generalize hq:eE (t / 4) c=d at*;generalize t / 4=k at*;generalize t % 4=r at*;unfold xD at L;clear z A;refine Y8 ?_;refine FW.puD C (by(repeat apply aB rfl);exact aQ) ?_;clear C;refine jU rfl rfl rfl ρ ρ ρ τ ρ ρ ω ω (by exact aQ) ?_;refine Y10 ?_
 refine aY (λm e y f=>∃j:Nat,j<=r/\r-j=m/\e=[(2, sb h.next),(4, sb (h.next+1)),(27, zc (r:Nat)),(28, zc (j:Nat))]/\y=[]/\Ext h f∧h.next+2<=f.next/\f.get h.next=some (qt (ceL (qR j d)))/\f.get (h.next+1)=some (qt [I.O,I.O,I.O]))
  ⟨0,hK _,rfl,rfl,rfl,⟨a.next,(Heap.aA ω).trans a.log,λb l=>(z5 ω).trans (a.old b l),λw=>(a.wf w).as (AS.wr h.next _ _ _)⟩,by show h.next+2<=v.next;omega,by rw[z6,M];rfl,(z5 ω).trans N⟩ ?_
 rintro m e y f ⟨j,hj,rfl,rfl,rfl,x,V,Q,S⟩;have o:=l.rot j;by_cases hlt:j<r
 ·have g:qR (j+1) d=HU (qR j d):=rfl;generalize qR j d=b at*;obtain⟨Y,J,Z⟩:=b;obtain⟨_,E,_⟩:=o;dsimp only at E;have my:=dV E;unfold HU at g;dsimp only at g;refine Y19 ?_;refine bA ?_;refine Y7 ?_;refine⟨r-(j+1),ω,j+1,ω,rfl,rfl,rfl,⟨x.next,(Heap.aA ω).trans x.log,λb l=>(z5 ω).trans (x.old b l),λw=>(x.wf w).as (AS.wr h.next _ _ _)⟩,V,?_,(z5 ω).trans S⟩;rw[z6,Q,g];rfl
 ·obtain rfl:j=r:=ω
  generalize qR j d=b at*;have n:cm 3 (bQ 0 (ceL b))=ceL b:=rfl;have i:Nat.beq (bS (ceL b)) 3=true:=rfl;refine Y15 ?_;refine an ?_ (bV (own:=true) (s:=1) rfl ?_ n i rfl) rfl
  ·rw[Heap.aA (by show h.next<=h.next+1;omega)];exact x.log.trans hr.log
  ·exact YG
end Go.A.Pk
end
section
namespace Go.A.Pk
variable {T:Nat->Option aq}
def nU(o:List Nat)(c:Ce):List Nat:=o.set c.z.toNat (Nat.lor (o.getD c.z.toNat 0) (2 ^ (8*c.y.toNat+c.x.toNat)))
variable{z:Nat}
def yd(o:List Nat){i:Nat}(hi:i<64):nU o (fk z i)=o.set z (Nat.lor (o.getD z 0) (2 ^ i)):=by
 unfold nU fk;dsimp only;rw[show((z:Nat):Int).toNat=z by omega,show 8*((i / 8:Nat):Int).toNat+((i % 8:Nat):Int).toNat=i by omega]
variable{o:List Nat}
def IsS.nU(h:IsS o){c:Ce}(b:inG c=true):IsS (Pk.nU o c):=by
 obtain⟨z,i,e,a,rfl⟩:=iP b;rw[yd o a];refine⟨by rw[hG];exact h.len,λx d=> ?_⟩;rcases A3 d with h1|h1
 ·exact h.lt x h1
 ·rw[h1];exact NM (h.lV z) (vC a)
def mN(f:Ce->Ce)(l:List Ce):List Nat:=l.foldl (λo c=>nU o (f c)) s0
def iD(f:Ce->Ce)(s:List Nat):List Nat:=mN f (aW s 512)
def tC(f:Ce->Ce)(l:List Ce)(c:Ce):mN f (l++[c])=nU (mN f l) (f c):=by unfold mN;rw[yr];rfl
def tB{f:Ce->Ce}:∀{l:List Ce},(∀c∈l,inG (f c)=true)->IsS (mN f l):=by
 intro l;have:∀(l:List Ce) (o:List Nat),IsS o->(∀c∈l,inG (f c)=true)->IsS (l.foldl (λo c=>nU o (f c)) o):=by
  intro l;induction l with
  |nil=>intro o b _;exact b
  |cons c l ih=>intro o b a;exact ih _ (b.nU (a c b7)) λx d=>a x (bz _ d)
 exact λa=>this l s0 BP a
def DY{v:Nat}(a:z<o.length):dP (us o) (0+z*1) (cellsOf (.int .u64 (v:Nat)))=us (o.set z v):=by
 show dP (us o) (0+z*1) [.int .u64 (v:Nat)]=_;rw[hF,xr,gH (by rw[aF];simp;omega)];unfold us;rw[WP,List.set_eq_take_append_cons_drop,if_pos (by simpa using a)];simp
section
open I
def vX:aZ:=I.R [g 7 (.new [O,O,O]),S 3 7 11] [3,4,5,6,7]
def vY:aZ:=(.block 1 (Q (I.R [L 12 3,N 13 3 7,g 14 (.call (t 12) [(t 13)]),g 8 (.new [O,O,O]),S 3 8 14] [4,5,6,8])
 (Q (.seq (I.R [N 15 3 8,g 16 (.call (.func 97) [(t 15)]),g 17 (.un .not (t 16))] [4,5,6,8,17])
 (.cond (t 17) (Q (I.R [g 18 (.build (aL 8 (.int .u64 0)) []),S 8 4 18,⟨none, .store 1 (t 5) (.const (.bool false)),none⟩] [])
 .ret) .skip))
 (.draw [A 19 2 8,L 20 19,g 21 (.dx 8 1 (t 6) (t 20)),L 22 21,N 23 3 8,g 24 (.call (.func 98) [(t 23)]),B 25 .or 22 24,g 26 (.dx 8 1 (t 6) (t 20)),S 1 26 25] [0,1,2,3,4,5,6,7,8] [0,1,3,7,0,16,63,127,255] []))))
end
structure Ek (T:Nat->Option aq):Prop where
 cp:Im T
 tu:uL T
 f126:T 97=some f126
 f127:T 98=some f127
 f211:T 133=some f211
 f215:T 130=some f215
 f261:T 153=some f261
 f262:T 154=some f262
variable{gf:Nat}{cap:Value}
def Kj(F:Ek T){H:Heap}(hr:Rdy H){q l lo N b3 D E:Nat}{fv:Value}{o:List Nat}(A:IsS o){c d:Ce}(hd:inG d=true)(L:lo<=q)(ba:q<l)(K:l<N)(aE:b3<q)
 (gl:H.get l=some (.loop [(3, sb b3),(4, sb D),(5, sb E),(6, sb q),(10,fv)] [11] vX vY 0 .normal))
 (m:H.get b3=some (qt [.func (.func gf) #[] #[cap]]))
 (w:∀f:Heap,WF f→(∀z,z<b3->f.get z=H.get z)->Pu T gf [ceV c,cap] (η f) (ceV d))
 (n:H.get q=some (qt (us o))){S:Heap->Prop}:
 FW T (.yield l) [ceV c] H λr f=>(∀z∈f.log,lo<=z/\z<N)/\(r= .ret (.bool true)/\(f.get q=some (qt (us (nU o d)))/\(∀z,z<H.next->z≠q->f.get z=H.get z)/\H.next<=f.next)∨r= .ret (.bool false)/\l∈f.log/\S f):=by
 have M:=F.cp.p;have no:q≠l:=ω
 have ko:=hr.wf.dJ n;have kl:=hr.wf.dJ gl;have k3:=hr.wf.dJ m;refine FW.QT M (R:=λf=>f.get q=some (qt (us (nU o d)))/\(∀z,z<H.next->z≠q->f.get z=H.get z)/\H.next<=f.next) gl rfl kl ⟨ω,K⟩ ?_;unfold vX;refine Y3 ?_;refine bA ?_;refine y1 ?_;refine⟨rfl,YG,?_⟩;unfold vY;refine oe ?_;refine WE.E4 ?_;intro j e;have y:∀z,z<H.next->z≠l->H.get z=j.get z:=λz g u=>by rw[e];symm;simp(disch:=first|omega|(simp only[z1,z2];omega))only[z5,z4]
 have U:j.get H.next=some (qt (ceL c)):=by rw[e];(simp(disch:=first|omega|(simp only[z1,z2];omega))only[z3,z4,z5,z6,z7,z1,z2,gl,m,n];exact rfl)
 have Q:j.get l=some (.loop [(3, sb b3),(4, sb D),(5, sb E),(6, sb q),(10,fv)] [11] vX vY 1 .normal):=by rw[e];(simp(disch:=first|omega|(simp only[z1,z2];omega))only[z3,z4,z5,z6,z7,z1,z2,gl,m,n,U];exact rfl)
 have A5:j.next=H.next+1:=by rw[e];rfl
 have A6:j.log=[]:=by rw[e];simp(disch:=first|omega|(simp only[z1,z2];omega))only[Heap.aA,Heap.zH];exact hr.log
 have V:WF j:=by rw[e];exact(((hr.wf.push _).as (AS.wr _ _ _ _)).as (AS.wr _ _ _ _))
 clear e;have W:=(y q ko no).symm.trans n;have B3:=(y b3 k3 ω).symm.trans m;have B:=w j V λz g=>(y z ω ω).symm;have ck:cm 3 (bQ 0 (ceL c))=ceL c:=rfl;have aw:Nat.beq (bS (ceL c)) 3=true:=rfl;clear n w;refine cQ (E0:=[(4, sb D),(5, sb E),(6, sb q),(8, sb j.next)]) (P:=λG=>Ext j G∧G.next=j.next+1/\G.get j.next=some (qt (ceL d))) ?_ ?_
 ·refine Y4 ?_;refine FW.pu B ?_;clear B;refine Y2 ?_;refine bA ?_;refine y1 ?_;exact⟨rfl,rfl,rfl,ff ω _ _,rfl,iW _ _⟩
 rintro hB ⟨x,nB,gB⟩;clear B U;have Y:=x.wf V;have LB:=x.log.trans A6;have k:=(x.old _ ω).trans W;have ae:=(x.old _ ω).trans Q;have C:=Kc M F.f126 F.f215 (h:=η hB) (.of Y) d;rw[hd]at C;obtain⟨z,i,g,J,rfl⟩:=iP hd;have X:=UT M F.f127 (h:=η hB) (.of Y) (z:=z) J;have ar:cm 3 (bQ 0 (ceL (fk z i)))=ceL (fk z i):=rfl;have Z:Nat.beq (bS (ceL (fk z i))) 3=true:=rfl;have lz:bN (ceL (fk z i)) (0+2)=some (zc ((z:Nat):Int)):=rfl;have e1:=jm (lU (s:=o) (i:=z) (by rw[A.len];exact g));have m1:=R7 (a:=o.getD z 0) (b:=2 ^ i) (A.lV z) (vC J);have kw:=DY (o:=o) (z:=z) (v:=Nat.lor (o.getD z 0) (2 ^ i)) (by rw[A.len];exact g);rw[←yd o J]at kw;have kc:(Nat.beq (bS (cellsOf (.int .u64 ((Nat.lor (o.getD z 0) (2 ^ i):Nat):Int)))) 1&&Nat.ble (0+z*1+1) (bS (us o))&&eN (cellsOf (.int .u64 ((Nat.lor (o.getD z 0) (2 ^ i):Nat):Int))))=true:=by
  rw[cK (us o),aF,A.len,gh ω];rfl
 clear W Q B3 m;refine Y4 ?_;refine FW.pu C ?_;clear C;refine Y12 ?_;refine FW.puD X (by apply aB rfl;apply au rfl (ah rfl (cw ρ τ τ) (by exact dh _ _)) rfl;apply au rfl (ah rfl (uO ρ ρ ω) (by exact bh _)) rfl;apply au rfl (ah rfl (cw ρ τ ρ) (by exact dh _ _)) rfl;apply au rfl (ah rfl (dL ρ) (by exact bh _)) rfl;exact aQ) ?_;clear X;refine Y2 ?_;refine iB (vs:=us o) (ws:=us (nU o (fk z i))) rfl rfl rfl ρ ρ ρ k kc kw ω (by(repeat apply aB rfl);exact aQ) ?_;refine Y3 ?_;refine⟨⟨_,YG,rfl⟩,λz g=> ?_, .inl ⟨rfl,λh5 hn t I=> ?_⟩⟩
 ·have O:z=q:=by
   rcases dW g with h|g
   ·exact h
   rw[LB]at g;cases g
  subst O;exact⟨L,ω⟩
 ·refine⟨(t q ko no).trans (Heap.aM k),λz g u=> ?_,hn⟩;by_cases hl:z=l
  ·subst hl;rw[gl];exact I
  ·refine(t z g hl).trans ?_;rw[z5 u,x.old z ω];exact(y z g hl).symm
variable{s:List Nat}
def jt{n:Nat}{c:Ce}(h:c∈aW s n):inG c=true:=by
 have:=Km h;by_cases hc:inG c=true
 ·exact hc
 ·rw[gX hc]at this;cases this
variable{f:Ce->Ce}
def I8(a:∀c,inG c=true->inG (f c)=true):IsS (iD f s):=tB λc b=>a c (jt b)
variable{h:Heap}
def Kk(F:Ek T)(hr:Rdy h)(hg:Tab h)(h2:0<h.next)(Q:IsS s)(E:∀c,inG c=true->inG (f c)=true)
 (aw:∀t:Heap,WF t→(∀z,z<h.next->t.get z=h.get z)->∀c,inG c=true->Pu T gf [ceV c,cap] (η t) (ceV (f c))):
 Pu T 153 [sv s, .func (.func gf) #[] #[cap]] h (.tuple #[sv (iD f s), .bool true]):=by
 have hp:=F.cp.p;have I:=I8 (s:=s) E;refine .of hp F.f261 hr (by
  have h1:flat (sv (iD f s))=true:=iQ _;show jf [sv (iD f s), .bool true]=true;simp only[jf,h1,cond_true];rfl) ?_
 have k8:=aN Q.len;have k9:=aU Q.len;have x0:Ext h (((((h.push (qt (cellsOf (sv s)))).push (qt (cellsOf (.func (.func gf) #[] #[cap])))).push (qt (aL 8 (.int .u64 0)))).push (qt [.bool false])).push (qt (aL 8 (.int .u64 0)))):=(((((Ext.refl h).push _).push _).push _).push _).push _;have gA:(((((h.push (qt (cellsOf (sv s)))).push (qt (cellsOf (.func (.func gf) #[] #[cap])))).push (qt (aL 8 (.int .u64 0)))).push (qt [.bool false])).push (qt (aL 8 (.int .u64 0)))).get h.next=some (qt (us s)):=YG
 have gB:(((((h.push (qt (cellsOf (sv s)))).push (qt (cellsOf (.func (.func gf) #[] #[cap])))).push (qt (aL 8 (.int .u64 0)))).push (qt [.bool false])).push (qt (aL 8 (.int .u64 0)))).get (h.next+1)=some (qt [.func (.func gf) #[] #[cap]]):=YG;have gC:(((((h.push (qt (cellsOf (sv s)))).push (qt (cellsOf (.func (.func gf) #[] #[cap])))).push (qt (aL 8 (.int .u64 0)))).push (qt [.bool false])).push (qt (aL 8 (.int .u64 0)))).get (h.next+2)=some (qt (us s0)):=YG;have gD:(((((h.push (qt (cellsOf (sv s)))).push (qt (cellsOf (.func (.func gf) #[] #[cap])))).push (qt (aL 8 (.int .u64 0)))).push (qt [.bool false])).push (qt (aL 8 (.int .u64 0)))).get (h.next+3)=some (qt [.bool false]):=YG;have gE:(((((h.push (qt (cellsOf (sv s)))).push (qt (cellsOf (.func (.func gf) #[] #[cap])))).push (qt (aL 8 (.int .u64 0)))).push (qt [.bool false])).push (qt (aL 8 (.int .u64 0)))).get (h.next+4)=some (qt (us s0)):=YG;have n0:(((((h.push (qt (cellsOf (sv s)))).push (qt (cellsOf (.func (.func gf) #[] #[cap])))).push (qt (aL 8 (.int .u64 0)))).push (qt [.bool false])).push (qt (aL 8 (.int .u64 0)))).next=h.next+5:=rfl
 refine Y9 ?_;generalize(((((h.push (qt (cellsOf (sv s)))).push (qt (cellsOf (.func (.func gf) #[] #[cap])))).push (qt (aL 8 (.int .u64 0)))).push (qt [.bool false])).push (qt (aL 8 (.int .u64 0))))=H at*;have W:=x0.wf hr.wf;have hL:=x0.log.trans hr.log;have C:=EH F.cp (h:=η H) (.of W) Q;refine Y4 ?_;refine FW.al C (λv h' m q=>q) ?_;rintro _ k K ⟨q,rfl,O,q2,q3⟩;clear C;have q2:H.next<=q:=q2
 have i:=x0.trans K;have W1:=i.wf hr.wf;have Z:=i.log.trans hr.log;have n1:=K.next
 have u:=(K.old _ ω).trans gB;have y:=(K.old _ ω).trans gC;have A:=(K.old _ ω).trans gD;have B:=(K.old _ ω).trans gE;have ae:Tab k:=hg.ext i h2;clear gA gB gC gD gE;refine Y2 ?_;refine Cc (lo:=h.next+4) (P:=PXo k.next (h.next+4) k (.loop [(3, sb (h.next+1)),(4, sb (h.next+2)),(5, sb (h.next+3)),(6, sb (h.next+4)),(10,fnC q)] [11] vX vY 0 .normal) (λd=>us (mN f d)) (aW s 512)) (S:=λ_=>False) rfl ρ (by rw[F.cp.f265];rfl) ω ω Z W1 ?_ (λH p=>⟨_,_,_,_,p.loop⟩) (λH p=>p.elim) ?_ (λ_ _ _ _ _ _ _ p=>p.elim)
 ·have Y:LO T (h.next+4) (k.next+1) k.next ceV (aW s 512) (λd t=>PXo k.next (h.next+4) k (.loop [(3, sb (h.next+1)),(4, sb (h.next+2)),(5, sb (h.next+3)),(6, sb (h.next+4)),(10,fnC q)] [11] vX vY 0 .normal) (λd=>us (mN f d)) d t∧IsS (mN f d)) (λ_=>False):=by
   refine⟨λdone x Hh hx ar hN j=> ?_,λdone Ha Hb p n e=>⟨PXo.fS ω done Ha Hb p.1 n e,p.2⟩,λ_ _ h=>h,λ_ h=>h.elim⟩;obtain⟨j,hd⟩:=j;have J:=jt hx
   refine FW.mono' (Kj F ar (lo:=h.next+4) (N:=k.next+1) (S:=λ_=>False) hd (d:=f x) (E x J) (bl _) ω ω ω j.loop ((j.old _ ω ω).trans u)
    (λt w e=>aw t w (λz M=>(e z ω).trans ((j.old z ω ω).trans (i.old z M))) x J) j.val) ?_
   rintro r' t ⟨r1,r2⟩;refine⟨r1,r2.imp (λ⟨e,g,o,_⟩=>⟨e,⟨λz M L=>(o z ω L).trans (j.old z M L),(o _ ω ω).trans j.loop,?_⟩,?_⟩) id⟩
   ·rw[tC];exact g
   ·rw[tC];exact hd.nU (E x J)
  have G:=Bk F.cp (.of (W1.push (.loop [(3, sb (h.next+1)),(4, sb (h.next+2)),(5, sb (h.next+3)),(6, sb (h.next+4)),(10,fnC q)] [11] vX vY 0 .normal))) (q0:=q) (l:=k.next) (N:=k.next+1) (lo:=h.next+4) Q (bl _) (by show h.next+4<=k.next+1;omega) (eA _) Y ((z4 ω).trans O) (λd t j=>(j.1.old 0 ω ω).trans ae)
   ⟨⟨λz M _=>z4 M,z3 _ _,(z4 ω).trans B⟩,BP⟩
  exact CW.mono G λr h' ⟨a,v,b,c⟩=>⟨a,v,b,c.imp (λp=>p.1) id⟩
 intro h4 h5 k1 k2 k3 k4 k5 j;have D:=(k5 (h.next+4) ω).trans j.val;have U:=(k5 (h.next+2) ω).trans ((j.old _ ω ω).trans y);have V:=(k5 (h.next+3) ω).trans ((j.old _ ω ω).trans A);unfold iD at*;generalize mN f (aW s 512)=z at*;have ck:=aU I.len;have X:=aN I.len;have be:=bZ z;have bj:(us z).length=8:=by rw[aF,I.len]
 have ba:=bZ s0;have aE:(us s0).length=8:=rfl;refine Y4 ?_;refine aG (bH ρ ρ τ τ τ (by exact bZ _)) ?_;refine aG (kC ρ ρ (by first|(simp(disch:=first|omega|(simp only[z1,z2];omega))only[z3,z4,z5,z6,z7,z1,z2,O,u,y,A,B,U,V,D];exact rfl)|fail) ρ ρ) ?_;refine y3 ?_;refine pq ?_;refine an ?_ (bV (own:=true) (s:=1) (l:=us z) rfl ?_ ck X (Px (own:=true) (s:=1) (ws:=[.bool true]) (v:= .bool true) rfl ?_ rfl rfl)) rfl
 ·rw[Heap.aA (by show h.next<=h.next+3;omega),Heap.aA (by show h.next<=h.next+2;omega)];exact k1
 ·simp(disch:=first|omega|(simp only[z1,z2];omega))only[z3,z4,z5,z6,z7,z1,z2,O,u,y,A,B,U,V,D]
 ·simp(disch:=first|omega|(simp only[z1,z2];omega))only[z3,z4,z5,z6,z7,z1,z2,O,u,y,A,B,U,V,D];exact rfl
def Tt(F:Ek T)(hr:Rdy h){a t:Nat}(f:t<24)(g:h.get a=some (qt [zc (t:Nat)])){c:Ce}(e:inG c=true):Pu T 154 [ceV c, sb a] h (ceV (gQ t c)):=by
 refine .of F.cp.p F.f262 hr rfl ?_;have i:=hr.wf.dJ g;have W:WF ((h.push (qt (cellsOf (ceV c)))).push (qt [I.O,I.O,I.O])):=(hr.wf.push _).push _;have C:=Lm F.tu (.of W) (lW.1 e) f;have b:cm 3 (bQ 0 (ceL (gQ t c)))=ceL (gQ t c):=rfl;generalize gQ t c=d at*;refine Y8 ?_;refine FW.pu C ?_;refine Y3 ?_;refine an ?_ (bV (own:=true) (s:=1) rfl ?_ b rfl rfl) rfl
 ·rw[Heap.aA (by show h.next<=h.next+1;omega)];exact hr.log
 ·exact YG
def dY(s:List Nat)(t:Nat):List Nat:=iD (gQ t) s
def oJ{t:Nat}(c:Ce)(h:inG c=true):inG (gQ t c)=true:=lW.2 ((lW.1 h).abC t)
def nY(s:List Nat)(t:Nat):IsS (dY s t):=I8 oJ
def Tu(F:Ek T)(hr:Rdy h)(v:Tab h)(q:0<h.next)(d:IsS s){t:Nat}(x:t<24):Pu T 133 [sv s, zc (t:Nat)] h (sv (dY s t)):=by
 refine .of F.cp.p F.f211 hr (iQ _) ?_;have D:=aN d.len;have E:=aU d.len;have g:Ext h (((h.push (qt (cellsOf (sv s)))).push (qt (cellsOf (Value.int .i64 (t:Nat))))).push (qt (aL 8 (.int .u64 0)))):=(((Ext.refl h).push _).push _).push _;have A:(((h.push (qt (cellsOf (sv s)))).push (qt (cellsOf (Value.int .i64 (t:Nat))))).push (qt (aL 8 (.int .u64 0)))).get h.next=some (qt (us s)):=YG
 have o:(((h.push (qt (cellsOf (sv s)))).push (qt (cellsOf (Value.int .i64 (t:Nat))))).push (qt (aL 8 (.int .u64 0)))).get (h.next+1)=some (qt [zc (t:Nat)]):=YG;have B:(((h.push (qt (cellsOf (sv s)))).push (qt (cellsOf (Value.int .i64 (t:Nat))))).push (qt (aL 8 (.int .u64 0)))).get (h.next+2)=some (qt (us s0)):=YG;have G:(((h.push (qt (cellsOf (sv s)))).push (qt (cellsOf (Value.int .i64 (t:Nat))))).push (qt (aL 8 (.int .u64 0)))).next=h.next+3:=rfl
 refine Y5 ?_;generalize(((h.push (qt (cellsOf (sv s)))).push (qt (cellsOf (Value.int .i64 (t:Nat))))).push (qt (aL 8 (.int .u64 0))))=H at*;have W:=g.wf hr.wf;have r:=g.log.trans hr.log
 have C:=Kk F (h:=η H) (.of W) (show Tab H from v.ext g q) (by show 0<H.next;omega) d (gf:=154) (cap:= sb (h.next+1)) (f:=gQ t) oJ
  (λy w e c u=>Tt F (.of w) x ((e (h.next+1) (by show h.next+1<H.next;omega)).trans o) u)
 have a:=nY s t;unfold dY at*;generalize iD (gQ t) s=z at*;have j:=aU a.len;have b:=aN a.len;have m:=bZ z;have n:(us z).length=8:=by rw[aF,a.len]
 have k:=bZ s0;have i:(us s0).length=8:=rfl;refine Y4 ?_;refine FW.pu C ?_;clear C;refine Y4 ?_;refine aG (bH ρ ρ YG τ τ (by exact bZ _)) ?_;refine Y3 ?_;refine aG (bW ρ YG τ τ) ?_;refine aG (bH ρ ρ YG τ τ (by exact bZ _)) ?_;refine Y2 ?_;refine an ?_ (bV (own:=true) (s:=1) (l:=us z) rfl ?_ j b rfl) rfl
 ·rw[Heap.aA (by show h.next<=h.next+2;omega),Heap.aA (by first|omega|(show h.next<=H.next;omega))];exact r
 ·exact YG
def shP(p:Nat)(k:Int):Nat:=if 0<=k then Nat.mod (Nat.shiftLeft p k.toNat) 18446744073709551616 else Nat.shiftRight p (-k).toNat
variable{p:Nat}
def Wq{k:Int}(a:p<U64):shP p k<U64:=by
 unfold shP;split
 ·exact Nat.mod_lt _ (by decide)
 ·exact xj (Nat.shiftRight_le _ _) a
def mE(s:List Nat)(a:Nat)(z k:Int):Nat->List Nat
 |0=>s0
 |n+1=>(mE s a z k n).set (((a+n:Nat):Int)+z).toNat (shP (s.getD (a+n) 0) k)
def pP{s:List Nat}(b:IsS s)(a:Nat)(z k:Int):∀n,IsS (mE s a z k n)
 |0=>BP
 |n+1=>by
  have ih:=pP b a z k n;refine⟨by unfold mE;rw[hG];exact ih.len,λx c=> ?_⟩;unfold mE at c;rcases A3 c with h|h
  ·exact ih.lt x h
  ·rw[h];exact Wq (b.lV _)
def mR(s:List Nat)(b:Bx)(x y z:Int):List Nat:=mE s b.lo.z.toNat z (8*y+x) (b.hi.z-b.lo.z+1).toNat
def YQ{n:Nat}(c:n<64):af .shl (.int .u64 (p:Nat)) (zc (n:Nat))=some (.int .u64 ((Nat.mod (Nat.shiftLeft p n) 18446744073709551616:Nat):Int)):=by
 have a:((n:Nat):Int)=Int.ofNat n:=rfl;have b:((p:Nat):Int)=Int.ofNat p:=rfl;rw[a,b];have:af .shl (.int .u64 (Int.ofNat p)) (zc (Int.ofNat n))=some (.int .u64 (.ofNat (Nat.mod (Nat.shiftLeft p (Nat.min n 64)) 18446744073709551616))):=rfl;rw[this,show Nat.min n 64=n from FX ω];rfl
def psL(s:List Nat)(b:Bx):List Value:=us s++bxL b
def psV(s:List Nat)(b:Bx):Value:= .agg (psL s b).toArray
def Jl{b:Bx}(a:IsS s)(j:Nat):bN (psL s b) (8+j)=bN (bxL b) j:=by
 rw[cC,cC];unfold psL;rw[hX (by rw[aF,a.len];omega),aF,a.len,ac3]
def V3{b:Bx}(a:IsS s){i:Nat}(hi:i<8):bN (psL s b) (0+0+i*1)=some (.int .u64 ((s.getD i 0:Nat):Int)):=by
 rw[cC,show 0+0+i*1=i by omega];unfold psL;rw[oB (by rw[aF,a.len];omega)];unfold us;rw[wt,lU (by rw[a.len];exact hi)];rfl
structure Uh (T:Nat->Option aq):Prop where
 p:aK T
 f212:T 134=some f212
variable{z:Int}
def Ki(F:Uh T)(hr:Rdy h)(I:IsS s){b:Bx}{x y:Int}(hx: -7<=x/\x<=7)(hy: -7<=y/\y<=7)(hz: -7<=z/\z<=7)(C:0<=b.lo.z/\b.lo.z<=7)(u:0<=b.hi.z/\b.hi.z<=7)(hl:0<=b.lo.z+z)(hh:b.hi.z+z<=7):
 Pu T 134 [psV s b, zc x, zc y, zc z] h (sv (mR s b x y z)):=by
 refine .of F.p F.f212 hr (iQ _) ?_;unfold mR;have G:bxL b=[zc b.lo.x, zc b.lo.y, zc b.lo.z, zc b.hi.x, zc b.hi.y, zc b.hi.z]:=rfl;have Z:bN (psL s b) (0+8+0+2)=some (zc b.lo.z):=by rw[show 0+8+0+2=8+2 by omega,Jl I];rfl
 have eB:bN (psL s b) (0+8+3+2)=some (zc b.hi.z):=by rw[show 0+8+3+2=8+5 by omega,Jl I];rfl
 obtain⟨a,S⟩:=Nm C.1;obtain⟨c,U⟩:=Nm u.1;rw[S]at Z C hl;rw[U]at eB u hh;have eP:=λi hi=>V3 (s:=s) (b:=b) I (i:=i) hi;have j:cellsOf (psV s b)=psL s b:=by show(psL s b).toArray.toList=_;simp
 have V:Ext h (((h.push (qt (cellsOf (psV s b)))).push (qt (aL 8 (.int .u64 0)))).push (qt (aL 8 (.int .u64 0)))):=(((Ext.refl h).push _).push _).push _;have gA:(((h.push (qt (cellsOf (psV s b)))).push (qt (aL 8 (.int .u64 0)))).push (qt (aL 8 (.int .u64 0)))).get h.next=some (qt (psL s b)):=by rw[j];(simp(disch:=first|omega|(simp only[z1,z2];omega))only[z3,z4,z5,z6,z7,z1,z2];done)
 have gB:(((h.push (qt (cellsOf (psV s b)))).push (qt (aL 8 (.int .u64 0)))).push (qt (aL 8 (.int .u64 0)))).get (h.next+1)=some (qt (us s0)):=YG;have gC:(((h.push (qt (cellsOf (psV s b)))).push (qt (aL 8 (.int .u64 0)))).push (qt (aL 8 (.int .u64 0)))).get (h.next+2)=some (qt (us s0)):=YG;have n0:(((h.push (qt (cellsOf (psV s b)))).push (qt (aL 8 (.int .u64 0)))).push (qt (aL 8 (.int .u64 0)))).next=h.next+3:=rfl
 refine Y7 ?_;generalize(((h.push (qt (cellsOf (psV s b)))).push (qt (aL 8 (.int .u64 0)))).push (qt (aL 8 (.int .u64 0))))=H at*;have hL:=V.log.trans hr.log;rw[S,U];have m1:vj 8 y (8*y):=zK ω ω;have m2:zE (8*y) x (8*y+x):=fK (aO ω ω);refine Y9 ?_
 refine aY (λm e O t=>∃n:Nat,(a+n<=c+1∨n=0)/\8-n=m/\e=[(1, zc x),(2, zc y),(3, zc z),(4, sb h.next),(8, sb (h.next+1)),(9, sb (h.next+2)),(10, zc ((a+n:Nat):Int))]/\O=[]/\Ext h t∧t.get h.next=some (qt (psL s b))/\t.get (h.next+1)=some (qt (us s0))/\t.get (h.next+2)=some (qt (us (mE s a z (8*y+x) n))))
  ⟨0, .inr rfl,rfl,rfl,rfl,V,gA,gB,gC⟩ ?_
 rintro m e O t ⟨n,hn,rfl,rfl,rfl,g,P,Q,r⟩;have d:=pP I a z (8*y+x) n;by_cases hlt:a+n<=c
 ·have m3:zp ((a+n:Nat):Int) c true:=fF ω;obtain⟨w,hw⟩:=Nm (show 0<=((a+n:Nat):Int)+z by omega);have D:w<8:=ω
  have m4:zE ((a+n:Nat):Int) z ((w:Nat):Int):=fK (by rw[aO ω ω];omega);have e1:=eP (a+n) ω;have f:mE s a z (8*y+x) (n+1)=(mE s a z (8*y+x) n).set w (shP (s.getD (a+n) 0) (8*y+x)):=by
   rw[mE,hw];rfl
  have ae:=g.next
  by_cases hk:0<=8*y+x
  ·obtain⟨k,A⟩:=Nm hk;have B:k<64:=ω
   rw[A]at m2 f d r⊢;have m5:zt ((k:Nat):Int) 0 true:=oS ω;have M:=YQ (p:=s.getD (a+n) 0) B;have q:shP (s.getD (a+n) 0) ((k:Nat):Int)=Nat.mod (Nat.shiftLeft (s.getD (a+n) 0) k) 18446744073709551616:=by
    unfold shP;rw[if_pos ω];rfl
   rw[←q]at M;have E:=DY (o:=mE s a z ((k:Nat):Int) n) (z:=w) (v:=shP (s.getD (a+n) 0) ((k:Nat):Int)) (by rw[d.len];exact D);rw[←f]at E;have L:(Nat.beq (bS (cellsOf (.int .u64 ((shP (s.getD (a+n) 0) ((k:Nat):Int):Nat):Int)))) 1&&Nat.ble (0+w*1+1) (bS (us (mE s a z ((k:Nat):Int) n)))&&eN (cellsOf (.int .u64 ((shP (s.getD (a+n) 0) ((k:Nat):Int):Nat):Int))))=true:=by
    rw[cK (us _),aF,d.len,gh ω];rfl
   have K:n<8:=ω
   refine Y37 ?_;refine aG (kC ρ ρ r L E) ?_;refine bA ?_;refine Y8 ?_;exact⟨8-(n+1),ω,n+1, .inl ω,rfl,rfl,rfl,⟨g.next,(Heap.aA ω).trans g.log,λb G=>(z5 ω).trans (g.old b G),λw=>(g.wf w).as (AS.wr h.next _ _ _)⟩,(z5 ω).trans P,(z5 ω).trans Q,Heap.aM r⟩
  ·obtain⟨k,A⟩:=Nm (show 0<= -(8*y+x)by omega);have B:k<64:=ω
   have m5:zt (8*y+x) 0 false:=uu ω;have m7:vH .neg (zc (8*y+x))=some (zc ((k:Nat):Int)):=by
    show some (Value.int .i64 (fU .i64 (0-(8*y+x))))=_;rw[aO ω ω];congr 2;omega
   have M:af .shr (.int .u64 ((s.getD (a+n) 0:Nat):Int)) (zc ((k:Nat):Int))=_:=xk (a:=s.getD (a+n) 0) (n:=k) ω;have q:shP (s.getD (a+n) 0) (8*y+x)=Nat.shiftRight (s.getD (a+n) 0) k:=by
    unfold shP;rw[if_neg hk,show(-(8*y+x)).toNat=k by omega]
   rw[←q]at M;have E:=DY (o:=mE s a z (8*y+x) n) (z:=w) (v:=shP (s.getD (a+n) 0) (8*y+x)) (by rw[d.len];exact D);rw[←f]at E;have L:(Nat.beq (bS (cellsOf (.int .u64 ((shP (s.getD (a+n) 0) (8*y+x):Nat):Int)))) 1&&Nat.ble (0+w*1+1) (bS (us (mE s a z (8*y+x) n)))&&eN (cellsOf (.int .u64 ((shP (s.getD (a+n) 0) (8*y+x):Nat):Int))))=true:=by
    rw[cK (us _),aF,d.len,gh ω];rfl
   have K:n<8:=ω
   refine Y35 ?_;refine aG (LS ρ τ) ?_;refine Y2 ?_;refine aG (kC ρ ρ r L E) ?_;refine bA ?_;refine Y8 ?_;exact⟨8-(n+1),ω,n+1, .inl ω,rfl,rfl,rfl,⟨g.next,(Heap.aA ω).trans g.log,λb G=>(z5 ω).trans (g.old b G),λw=>(g.wf w).as (AS.wr h.next _ _ _)⟩,(z5 ω).trans P,(z5 ω).trans Q,Heap.aM r⟩
 ·have m3:zp ((a+n:Nat):Int) c false:=fE ω;rw[show((a:Nat):Int).toNat=a by omega,show(((c:Nat):Int)-((a:Nat):Int)+1).toNat=n by omega];generalize mE s a z (8*y+x) n=o at*;have W:=aU d.len;have J:=aN d.len;have X:=bZ o;have Y:(us o).length=8:=by rw[aF,d.len]
  have N:(us s0).length=8:=rfl;refine Y17 ?_;refine aG (bH ρ ρ τ τ τ (by exact bZ _)) ?_;refine Y2 ?_;refine an ?_ (bV (own:=true) (s:=1) (l:=us o) rfl ?_ W J rfl) rfl
  ·rw[Heap.aA (by show h.next<=h.next+1;omega)];exact g.log.trans hr.log
  ·exact YG
structure Ub (T:Nat->Option aq):Prop where
 p:aK T
 f188:T 100=some f188
 f254:T 135=some f254
def ij(s:List Nat):Nat:=(aW s 512).length
def uW(F:Ub T)(hr:Rdy h)(b:IsS s):Pu T 100 [sv s] h (zc ((ij s:Nat):Int)):=by
 refine .of F.p F.f188 hr rfl ?_;have o:=aN b.len;have q:=aU b.len;have W:=hr.wf.push (qt (cellsOf (sv s)));have j:=jd s 512;unfold ij;refine Y9 ?_;refine aG (bW ρ YG τ τ) ?_;refine Y3 ?_
 refine aY (λm e f g=>∃z:Nat,z<=8/\8-z=m/\e=[(3, zc (((aW s (z*64)).length:Nat):Int)),(6,sv s),(7, zc (z:Nat))]/\f=[]/\h.push (qt (cellsOf (sv s)))=g)
  ⟨0,ω,rfl,rfl,rfl,rfl⟩ ?_
 rintro m e f g ⟨z,l,rfl,rfl,rfl,rfl⟩;by_cases hz:z<8
 ·have n:bN (us s).toArray.toList (z*1)=some (.int .u64 ((s.getD z 0:Nat):Int)):=by
   rw[Pi,xr,cC];unfold us;rw[wt,lU (by rw[b.len];exact hz)];rfl
  have C:=Sw F.p F.f254 (.of W) (b.lV z);have a:=oN s hz;have k:=jd s (z*64);have d:(uz s z).length=(bitsOf (s.getD z 0)).length:=by unfold uz;rw[j3]
  have i:(bitsOf (s.getD z 0)).length<=64:=by
   unfold bitsOf;exact gy (Xs ..) (by simp)
  have r:zE (((aW s (z*64)).length:Nat):Int) (((bitsOf (s.getD z 0)).length:Nat):Int) (((aW s ((z+1)*64)).length:Nat):Int):=by
   rw[a,dk,d];exact fK (by rw[aO ω ω];omega)
  generalize(bitsOf (s.getD z 0)).length=c3 at*;refine Y10 ?_;refine aG (GA ρ ρ ω τ) ?_;refine Y6 ?_;refine FW.pu C ?_;clear C;refine Y2 ?_;refine bA ?_;refine Y7 ?_;exact⟨8-(z+1),ω,z+1,ω,rfl,rfl,rfl,rfl⟩
 ·obtain rfl:z=8:=ω
  rw[show 8*64=512 from rfl];generalize(aW s 512).length=c at*;refine Y15 ?_;exact an hr.log rfl rfl
structure Fi where
 t:Nat
 x:Int
 y:Int
 z:Int
 s:List Nat
def moV(t x y z:Int):Value:= .agg #[zc t, zc x, zc y, zc z]
def fiV(f:Fi):List Value:=[moV f.t f.x f.y f.z,sv f.s]
def zrN(lo:Int)(n:Nat):List Int:=(List.range n).map λi=>lo+(i:Nat)
def QW(lo:Int)(n:Nat):zrN lo (n+1)=zrN lo n++[lo+(n:Nat)]:=by unfold zrN;rw[P2,A1];rfl
def zr(lo hi:Int):List Int:=zrN lo (hi-lo+1).toNat
def xQ(a p:List Nat)(bp:Bx)(t:Nat)(z y x:Int):List Fi:=if sIn (mR p bp x y z) a then [⟨t,x,y,z,mR p bp x y z⟩]else []
def wg(a p:List Nat)(ra bp:Bx)(t:Nat)(z y:Int):List Fi:=(zr (ra.lo.x-bp.lo.x) (ra.hi.x-bp.hi.x)).flatMap (xQ a p bp t z y)
def zh(a p:List Nat)(ra bp:Bx)(t:Nat)(z:Int):List Fi:=(zr (ra.lo.y-bp.lo.y) (ra.hi.y-bp.hi.y)).flatMap (wg a p ra bp t z)
def J2(a p:List Nat)(ra bp:Bx)(t:Nat):List Fi:=(zr (ra.lo.z-bp.lo.z) (ra.hi.z-bp.hi.z)).flatMap (zh a p ra bp t)
def rW(a b:List Nat)(t:Nat):List Fi:=J2 a (dY b t) (cA a).1 (cA (dY b t)).1 t
def jC(a b:List Nat):List Fi:=if a=s0∨ij a<ij b then []else(List.range 24).flatMap (rW a b)
structure Gy (b:Bx):Prop where
 lo:InB b.lo
 hi:InB b.hi
def NY{a b:Int}(c:0<=a/\a<=7)(hb:0<=b/\b<=7):0<=mi a b/\mi a b<=7:=by unfold mi;split<;>assumption
def N1{a b:Int}(c:0<=a/\a<=7)(hb:0<=b/\b<=7):0<=mx a b/\mx a b<=7:=by unfold mx;split<;>assumption
def Gy.up{b:Bx}(h:Gy b){c:Ce}(a:InB c):Gy (rH b c):=
 ⟨⟨NY h.lo.x a.x,NY h.lo.y a.y,NY h.lo.z a.z⟩,⟨N1 h.hi.x a.x,N1 h.hi.y a.y,N1 h.hi.z a.z⟩⟩
def UX:∀{l:List Ce},(∀c∈l,InB c)->Gy (bxS l):=by
 intro l;have:∀(l:List Ce) (b:Bx),Gy b->(∀c∈l,InB c)->Gy (l.foldl rH b):=by
  intro l;induction l with
  |nil=>intro b d _;exact d
  |cons c l ih=>intro b d a;exact ih _ (d.up (a c b7)) λx e=>a x (bz _ e)
 exact λa=>this l bx0 ⟨⟨by decide,by decide,by decide⟩,⟨by decide,by decide,by decide⟩⟩ a
def iG(s:List Nat):Gy (cA s).1:=by
 unfold cA;split
 ·exact⟨⟨by decide,by decide,by decide⟩,⟨by decide,by decide,by decide⟩⟩
 ·exact UX λc a=>lW.1 (jt a)
structure Ue (T:Nat->Option aq):Prop where
 mp:Ek T
 bd:Ua T
 li:Uh T
 co:Ub T
 f35:T 53=some f35
 f121:T 94=some f121
 f209:T 131=some f209
def xN:Bx:=⟨c0,c0⟩
def RD{e:Env}{x:Operand}(a:IsS s)(f:ev h e x=some (sv s)):jO h e [.int .u64 0, .int .u64 0, .int .u64 0, .int .u64 0, .int .u64 0, .int .u64 0, .int .u64 0, .int .u64 0,I.O,I.O,I.O,I.O,I.O,I.O] [(0,8,x)]=some (psL s xN):=by
 have b:cellsOf (sv s)=us s:=by show(us s).toArray.toList=_;simp
 have h0:psL s0 xN=[.int .u64 0, .int .u64 0, .int .u64 0, .int .u64 0, .int .u64 0, .int .u64 0, .int .u64 0, .int .u64 0,I.O,I.O,I.O,I.O,I.O,I.O]:=rfl;have c:dP (psL s0 xN) 0 (us s)=psL s xN:=by
  rw[gH (by rw[aF,a.len];decide),aF,a.len,ST];rfl
 have d:bS (us s)=8:=by rw[cK,aF,a.len]
 rw[←h0];have g:(Nat.beq 8 8&&Nat.ble (0+8) (bS (psL s0 xN)))=true:=rfl;simp only[jO,f,b,c,d];rfl
def Dl{b:Bx}(a:IsS s):(psL s b).length=14:=by
 unfold psL;rw[dk,aF,a.len];rfl
def SU{b:Bx}(a:IsS s):cm 14 (bQ 0 (psL s b))=psL s b:=by rw[bw,aT,ww,go (by rw[Dl a];omega)]
def O3{b:Bx}(a:IsS s):Nat.beq (bS (psL s b)) 14=true:=by rw[cK,Dl a];rfl
def O4{b:Bx}:eN (psL s b)=true:=nT (bZ _) rfl
def Zc{b:Bx}(a:IsS s):cm 8 (bQ (0+0) (psL s b))=us s:=by
 rw[bw,aT,hF,ww];unfold psL;rw[q9 (by rw[aF,a.len];omega),go (by rw[aF,a.len];omega)]
def V4{b b':Bx}(a:IsS s):dP (psL s b) (0+8) (cellsOf (bxV b'))=psL s b':=by
 show dP (psL s b) 8 (bxL b')=_;unfold psL;rw[gH (by rw[dk,aF,a.len];exact bl _),q9 (by rw[aF,a.len];omega),go (by rw[aF,a.len];omega),xi (by rw[dk,aF,a.len];exact bl _)];simp
def V2{b:Bx}(a:IsS s):cm 3 (bQ (0+8+0) (psL s b))=ceL b.lo:=by
 rw[bw,aT];unfold psL;rw[show 0+8+0=(us s).length by rw[aF,a.len],List.drop_left];rfl
def V1{b:Bx}(a:IsS s):cm 3 (bQ (0+8+3) (psL s b))=ceL b.hi:=by
 rw[bw,aT];unfold psL;rw[List.drop_append,aF,a.len,xi (by rw[aF,a.len];omega)];rfl
structure FxK (P:List Fi->Heap->Prop) (lo:Nat) (h0:Heap) (q:Nat) (rm bp:Bx) (p:List Nat) (D:List Fi) (g:Heap):Prop where
 k:Lk lo h0 g
 pd:P D g
 nx:q+2<g.next
 g4:g.get h0.next=some (qt (bxL rm))
 g7:g.get q=some (qt (psL p bp))
 g8:g.get (q+1)=some (qt (ceL bp.lo))
 g9:g.get (q+2)=some (qt (ceL bp.hi))
variable{hi lo:Int}
def Eh{n:Nat}(h:z=lo+(n:Nat))(a:z<=hi):z∈zr lo hi:=List.mem_map.2 ⟨n,List.mem_range.2 ω,h.symm⟩
def AT{α:Type}(lo:Int)(n:Nat)(f:Int->List α)(h:z=lo+(n:Nat)):(zrN lo (n+1)).flatMap f=(zrN lo n).flatMap f++f z:=by
 rw[QW,NE,h];simp
def DH{n:Nat}(h1:n=0∨lo+(n:Nat)<=hi+1)(a:hi<lo+(n:Nat)):n=(hi-lo+1).toNat:=ω
end Go.A.Pk
end
section
namespace Go.A.Pk
variable {T:Nat->Option aq}
structure FxL (P:List Fi->Heap->Prop) (W:Heap->Nat->Prop) (lo:Nat) (h0:Heap) (q0 q:Nat) (rm bp:Bx) (p:List Nat) (D:List Fi) (g:Heap):Prop where
 k:Lk lo h0 g
 pd:P D g
 dm:((∀x,x<h0.next->g.get x=h0.get x)/\P D h0)∨q0∈g.log/\jJ g q0
 nx:q+2<g.next
 g4:g.get h0.next=some (qt (bxL rm))
 g7:g.get q=some (qt (psL p bp))
 g8:g.get (q+1)=some (qt (ceL bp.lo))
 g9:g.get (q+2)=some (qt (ceL bp.hi))
 w4:¬W g h0.next
 w7:¬W g q
 w8:¬W g (q+1)
 w9:¬W g (q+2)
def MN{P:List Fi->Heap->Prop}{d:Heap}{q0:Nat}{D:List Fi}{g e:Heap}(h:q0<d.next)(j:d.next<=g.next)(f:((∀x,x<d.next->g.get x=d.get x)/\P D d)∨q0∈g.log/\jJ g q0)(x:Ext g e):((∀x,x<d.next->e.get x=d.get x)/\P D d)∨q0∈e.log/\jJ e q0:=by
 rcases f with⟨a,b⟩|⟨a,vs,own,t,b,c⟩
 ·exact .inl ⟨λz i=>(x.old z ω).trans (a z i),b⟩
 ·exact .inr ⟨by rw[x.log];exact a,vs,own,t,(x.old _ ω).trans b,c⟩
section
variable {lo N l q0:Nat} {all:List Fi} {P:List Fi->Heap->Prop} {W:Heap->Nat->Prop} {h0:Heap} {q:Nat} {rm bp:Bx} {p:List Nat} {D D':List Fi} {g g':Heap}
def FxL.ext(Y:JJ T lo N l q0 fiV all P W)(f:FxL P W lo h0 q0 q rm bp p D g)(x:Ext g g')(b:lo<=g.next)(c:q0<h0.next)(i:h0.next<q):FxL P W lo h0 q0 q rm bp p D g':=by
 have d:=x.next
 have h:=f.nx;have a:∀z,¬W g z->¬W g' z:=λz e q=>e (Y.wst _ _ _ f.pd d x.old z q);exact⟨f.k.trans (x.lk b),Y.fS _ _ _ f.pd d x.old,MN c f.k.next f.dm x,ω,(x.old _ ω).trans f.g4,(x.old _ ω).trans f.g7,(x.old _ ω).trans f.g8,(x.old _ ω).trans f.g9,a _ f.w4,a _ f.w7,a _ f.w8,a _ f.w9⟩
def FxL.step(f:FxL P W lo h0 q0 q rm bp p D g)(x:Lk lo g g')(d:q0∈g'.log/\jJ g' q0)(c:P D' g')(b:∀z,z<g.next->¬W g z->g'.get z=g.get z)(h:∀z,W g' z->W g z∨g.next<=z)(l:h0.next<q):FxL P W lo h0 q0 q rm bp p D' g':=by
 have i:=x.next
 have j:=f.nx;have a:∀z,z<g.next->¬W g z->¬W g' z:=λz m e q=>(h z q).elim e λq=>ω
 exact⟨f.k.trans x,c, .inr d,ω,(b _ ω f.w4).trans f.g4,(b _ ω f.w7).trans f.g7,(b _ ω f.w8).trans f.g8,(b _ ω f.w9).trans f.g9,a _ ω f.w4,a _ ω f.w7,a _ ω f.w8,a _ ω f.w9⟩
end
def J3{α:Type}{D:List Fi}{L:List α}{n:Nat}(h:D.length<=n){f:Fi}:(D++[f]).length<=n+1:=by rw[dk];exact Nat.succ_le_succ h
variable{h:Heap}{a b:List Nat}
def MZ(F:Ue T)(hr:Rdy h){qa qb l q0 N lo:Nat}(ha:IsS a)(hb:IsS b){P:List Fi->Heap->Prop}{W:Heap->Nat->Prop}(hN:N<=h.next)(f8:lo<=h.next)(i0:0<N)
 (Y:JJ T lo N l q0 fiV (jC a b) P W)
 (ga:∀d H,P d H->H.get qa=some (qt (us a)))(gb:∀d H,P d H->H.get qb=some (qt (us b)))(M:∀d H,P d H->Tab H)(h0:P [] h):
 Gr T 131 [.func (.yield l) #[] #[], sb qa, sb qb] h lo λv c=>v= .tuple #[]/\P (jC a b) c:=by
 have hp:=F.li.p;have io:=aN ha.len;have ip:=aU ha.len;have jp:=aN hb.len;have ju:=aU hb.len;have ae:q0<h.next:=m6 Y.hq hN
 refine Gr.ofK hp F.f209 f8 (λv h1 hA p=>Nu Y ae hA p) ?_;have C0:=Bi F.bd (h:=η h) (.of hr.wf) (show Tab h from M _ _ h0) (by show 0<h.next;omega) ha;have gA:=ga _ _ h0;unfold JQ at C0;have bj:(cA a).2= !decide (a=s0):=by
  unfold cA;by_cases he:a=s0
  ·rw[if_pos he,decide_eq_true he];rfl
  ·rw[if_neg he,decide_eq_false he];rfl
 have E:=iG a;have eq:∀t,rW a b t=J2 a (dY b t) (cA a).1 (cA (dY b t)).1 t:=λ_=>rfl;rw[bj]at C0;generalize(cA a).1=rm at*;refine cQ (E0:=[(0, .func (.yield l) #[] #[]),(1, sb qa),(2, sb qb),(4, sb h.next),(5, .bool (!decide (a=s0)))]) (P:=λc=>Ext h c∧c.next=h.next+1/\c.get h.next=some (qt (bxL rm))) ?_ ?_
 ·refine Y3 ?_;refine FW.pu C0 ?_;refine Y6 ?_;refine bA ?_;refine y1 ?_;exact⟨rfl,rfl,rfl,ff ω _ _,rfl,iW _ _⟩
 clear C0;rintro H1 ⟨r,n1,q1⟩;have W1:=r.wf hr.wf;have cJ:=r.log.trans hr.log;have X:Lk lo h H1:=⟨r.next,λhh=>by rw[cJ];exact fD.nil _,λz hz=>r.old z ω,r.wf⟩;have u:P [] H1:=Y.fS _ _ _ h0 r.next r.old
 have B:((∀x,x<h.next->H1.get x=h.get x)/\P [] h)∨q0∈H1.log/\jJ H1 q0:= .inl ⟨r.old,h0⟩;have du:¬W H1 h.next:=λq=>xc _ (Y.wlt _ _ _ h0 (Y.wst _ _ _ h0 r.next r.old _ q))
 have dE:=ga _ _ u;have dT:=gb _ _ u;clear gA;by_cases he:a=s0
 ·have hf:jC a b=[]:=if_pos (.inl he);rw[hf,decide_eq_true he];refine Y18 ?_;exact ES (X.log (by rw[hr.log];exact fD.nil _)) rfl ⟨rfl,u,B⟩
 rw[decide_eq_false he];have C1:=uW F.co (h:=η H1) (.of W1) hb;have C2:=uW F.co (h:=η H1) (.of W1) ha;by_cases hcn:ij a<ij b
 ·have hf:jC a b=[]:=if_pos (.inr hcn);rw[hf];have m1:zs ((ij b:Nat):Int) ((ij a:Nat):Int) true:=fh ω;refine Y9 ?_;refine FW.puD C1 (by apply au rfl (ah rfl (bW ρ τ τ τ) (by exact sZ _)) rfl;(repeat apply aB rfl);exact aQ) ?_;skip;refine qC ?_;refine FW.puD C2 (by apply aB rfl;exact aQ) ?_;refine Y8 ?_;exact ES (X.log (by rw[hr.log];exact fD.nil _)) rfl ⟨rfl,u,B⟩
 have hf:jC a b=(List.range 24).flatMap (rW a b):=if_neg (λq=>q.elim he hcn);have m1:zs ((ij b:Nat):Int) ((ij a:Nat):Int) false:=gT ω;refine Y9 ?_;refine FW.puD C1 (by apply au rfl (ah rfl (bW ρ τ τ τ) (by exact sZ _)) rfl;(repeat apply aB rfl);exact aQ) ?_;skip;refine qC ?_;refine FW.puD C2 (by apply aB rfl;exact aQ) ?_;clear C1 C2;refine Y12 ?_
 refine aY (λk e I c=>∃t:Nat,t<=24/\24-t=k/\e=[(0, .func (.yield l) #[] #[]),(1, sb qa),(2, sb qb),(4, sb h.next),(28, zc (t:Nat))]/\I=[]/\Lk lo h c∧P ((List.range t).flatMap (rW a b)) c∧h.next<c.next/\c.get h.next=some (qt (bxL rm))/\(((∀x,x<h.next->c.get x=h.get x)/\P ((List.range t).flatMap (rW a b)) h)∨q0∈c.log/\jJ c q0)/\¬W c h.next/\((List.range t).flatMap (rW a b)).length<=t*4096)
  ⟨0,hK _,rfl,rfl,rfl,X,u,ω,q1,B,du,hK _⟩ ?_
 clear u dE dT q1 X W1 cJ r n1 B du;rintro k e I G ⟨t,hJ,rfl,rfl,rfl,hk,U,be,g4,V,dv,f7⟩;have WG:=hk.wf hr.wf;by_cases ht:t<24
 ·have m:=nY b t;have A:=iG (dY b t);have D1:=Tu F.mp (h:=η G) (.of WG) (show Tab G from M _ _ U) (by show 0<G.next;omega) hb ht;have gB:=gb _ _ U;have hT:(List.range (t+1)).flatMap (rW a b)=(List.range t).flatMap (rW a b)++rW a b t:=by rw[P2,NE];simp
  have K:∀f∈rW a b t,f∈jC a b:=λf eh=>by
   rw[hf];exact List.mem_flatMap.2 ⟨t,List.mem_range.2 ht,eh⟩
  rw[eq t]at hT K;generalize(List.range t).flatMap (rW a b)=D at*;generalize hbb:cA (dY b t)=bb at*;generalize dY b t=p at*;obtain⟨bp,fY⟩:=bb;dsimp only at A hT K;have fg:=aN m.len;have aw:=Dl (b:=xN) m;have bo:=O4 (s:=p) (b:=xN);refine Y13 ?_;refine cQ (E0:=[(0, .func (.yield l) #[] #[]),(1, sb qa),(2, sb qb),(4, sb h.next),(6, zc (t:Nat)),(7, sb G.next),(28, zc (t:Nat))]) (P:=λc=>Ext G c∧c.next=G.next+1/\c.get G.next=some (qt (psL p xN))) ?_ ?_
  ·refine Y4 ?_;refine FW.pu D1 ?_;skip;refine aG (mS (RD m ρ)) ?_;refine aG (wT) ?_;refine aG (bH ρ ρ YG τ ρ τ) ?_;refine bA ?_;refine y1 ?_;exact⟨rfl,rfl,rfl,ff ω _ _,rfl,iW _ _⟩
  clear D1;rintro G1 ⟨r,n1,q1⟩;have cj:=r.wf WG;have u:P D G1:=Y.fS _ _ _ U r.next r.old
  have D2:=Bi F.bd (h:=η G1) (.of cj) (show Tab G1 from M _ _ u) (by show 0<G1.next;omega) m;rw[hbb]at D2;unfold JQ at D2;dsimp only at D2;have ks:=Zc (b:=xN) m;have ku:=V4 (b:=xN) (b':=bp) m;have dC:(Nat.beq (bS (cellsOf (bxV bp))) 6&&Nat.ble (0+8+6) (bS (psL p xN))&&eN (cellsOf (bxV bp)))=true:=by
   rw[cK (psL p xN),aw];rfl
  refine cQ (E0:=[(0, .func (.yield l) #[] #[]),(1, sb qa),(2, sb qb),(4, sb h.next),(6, zc (t:Nat)),(7, sb G.next),(28, zc (t:Nat))]) (P:=λc=>Ext G c∧c.next=G.next+1/\c.get G.next=some (qt (psL p bp))) ?_ ?_
  ·refine Y4 ?_;refine FW.pu D2 ?_;refine Y4 ?_;refine aG (kC ρ ρ q1 dC ku) ?_;refine bA ?_;refine y1 ?_;exact⟨rfl,rfl,rfl,⟨r.next,(Heap.aA ω).trans r.log,λb hb=>(z5 ω).trans (r.old b hb),λw=>(r.wf w).as (AS.wr h.next _ _ _)⟩,n1,Heap.aM q1⟩
  clear D2 q1 u cj n1 r;rintro S ⟨x2,n2,q2⟩;have kl:=V2 (b:=bp) m;have kh:=V1 (b:=bp) m;have cl:Nat.beq (bS (ceL bp.lo)) 3=true:=rfl;have ch:Nat.beq (bS (ceL bp.hi)) 3=true:=rfl;refine cQ (E0:=[(0, .func (.yield l) #[] #[]),(1, sb qa),(2, sb qb),(4, sb h.next),(6, zc (t:Nat)),(7, sb G.next),(8, sb S.next),(9, sb (S.next+1)),(28, zc (t:Nat))]) (P:=λc=>Ext G c∧c.next=S.next+2/\c.get G.next=some (qt (psL p bp))/\c.get S.next=some (qt (ceL bp.lo))/\c.get (S.next+1)=some (qt (ceL bp.hi))) ?_ ?_
  ·refine Y3 ?_;refine qZ9 (c:=bW ρ τ τ ρ) (H:=?_);refine Y2 ?_;refine qZ9 (c:=bW ρ τ τ ρ) (H:=?_);refine ru rfl rfl rfl ρ ρ ρ wT (by refine bY (ah rfl (bW ρ YG τ ρ) (by refine mP ?_;refine cD (eT _ _) ?_;refine cD (eT _ _) ?_;exact cD (eT _ _) τ)) ?_;refine bY (ah rfl (dL ρ) (by exact bh _)) ?_;refine bY (ah rfl (dL ρ) (by exact bh _)) ?_;refine bY (ah rfl (bW ρ YG τ ρ) (by refine mP ?_;refine cD (eT _ _) ?_;refine cD (eT _ _) ?_;exact cD (eT _ _) τ)) ?_;refine bY (ah rfl (dL ρ) (by exact bh _)) ?_;refine bY (ah rfl (dL ρ) (by exact bh _)) ?_;exact qT) ?_;refine ru rfl rfl rfl ρ ρ ρ wT (by refine bY (ye rfl) ?_;refine bY (ah rfl (bW ρ YG τ ρ) (by refine mP ?_;refine cD (eT _ _) ?_;refine cD (eT _ _) ?_;exact cD (eT _ _) τ)) ?_;refine bY (ah rfl (dL ρ) (by exact bh _)) ?_;refine bY (ah rfl (dL ρ) (by exact bh _)) ?_;refine bY (ah rfl (bW ρ YG τ ρ) (by refine mP ?_;refine cD (eT _ _) ?_;refine cD (eT _ _) ?_;exact cD (eT _ _) τ)) ?_;refine bY (ah rfl (dL ρ) (by exact bh _)) ?_;refine bY (ah rfl (dL ρ) (by exact bh _)) ?_;exact qT) ?_;refine jU rfl rfl rfl ρ ρ ρ YG ρ ρ (by(simp only[z1,z2];omega)) ω (by(repeat apply aB rfl);apply au rfl (ah rfl (bW ρ YG τ ρ) (by refine mP ?_;refine cD (eT _ _) ?_;refine cD (eT _ _) ?_;exact cD (eT _ _) τ)) rfl;apply au rfl (ah rfl (dL ρ) (by exact bh _)) rfl;apply au rfl (ah rfl (dL ρ) (by exact bh _)) rfl;(repeat apply aB rfl);exact aQ) ?_;refine jU rfl rfl rfl ρ ρ ρ YG ρ ρ (by(simp only[z1,z2];omega)) (by(simp only[z1,z2];omega)) (by(repeat apply aB rfl);exact aQ) ?_;refine Y2 ?_;refine⟨rfl,rfl,rfl,⟨by show G.next<=S.next+2;omega,by rw[Heap.aA (by show h.next<=S.next+1;omega),Heap.aA ω];exact x2.log,λb hb=>by
    rw[z5 (by show b≠S.next+1;omega),z5 ω,z4 (by show b<S.next+1;omega),z4 ω];exact x2.old b hb,λw=>((((x2.wf w).push _).push _).as (AS.wr _ _ _ _)).as (AS.wr _ _ _ _)⟩,rfl,?_,?_,?_⟩
   ·exact YG
   ·exact YG
   ·exact YG
  rintro G3 ⟨x3,n3,q3,q8,Q⟩;rw[n2]at n3 q8 Q⊢;have d9:Lk lo h G3:=hk.trans (x3.lk (by have:=hk.next;omega));have cY:P D G3:=Y.fS _ _ _ U x3.next x3.old
  have O:∀z,W G3 z->W G z:=Y.wst _ _ _ U x3.next x3.old
  have ar:∀z,W G z->z<G.next:=λz=>Y.wlt _ _ z U
  have g:FxL P W lo h q0 G.next rm bp p D G3:=⟨d9,cY,MN ae hk.next V x3,ω,(x3.old _ be).trans g4,q3,q8,Q,λq=>dv (O _ q),λq=>absurd (ar _ (O _ q)) ω,λq=>absurd (ar _ (O _ q)) ω,λq=>absurd (ar _ (O _ q)) ω⟩
  have i8:N<=G.next:=by have:=hk.next;omega
  have dp:h.next<G.next:=be
  clear q2 x2 n2 q3 q8 Q d9 cY x3 n3 g4 be U hk gB O ar dv V ks ku dC fg aw bo kl kh cl ch WG;generalize G.next=q at*
  have i9:=E.lo.x;have ib:=E.hi.x;have ie:=E.lo.y;have ii:=E.hi.y;have ik:=E.lo.z;have il:=E.hi.z;have lc:=A.lo.x;have ld:=A.hi.x;have lf:=A.lo.y;have lh:=A.hi.y;have fw:=A.lo.z;have fX:=A.hi.z;have lO:vi rm.lo.z bp.lo.z (rm.lo.z-bp.lo.z):=jD (aO ω ω);have m8:vi rm.hi.z bp.hi.z (rm.hi.z-bp.hi.z):=jD (aO ω ω);have lw:vi rm.lo.y bp.lo.y (rm.lo.y-bp.lo.y):=jD (aO ω ω);have lL:vi rm.hi.y bp.hi.y (rm.hi.y-bp.hi.y):=jD (aO ω ω);have ll:vi rm.lo.x bp.lo.x (rm.lo.x-bp.lo.x):=jD (aO ω ω);have lr:vi rm.hi.x bp.hi.x (rm.hi.x-bp.hi.x):=jD (aO ω ω);have q4:=g.g4;have q8:=g.g8;refine Y10 ?_
  refine aY (λk e I c=>∃(n:Nat) (z:Int),z=rm.lo.z-bp.lo.z+(n:Nat)/\(n=0∨z<=rm.hi.z-bp.hi.z+1)/\16-n=k/\e=[(0, .func (.yield l) #[] #[]),(1, sb qa),(2, sb qb),(4, sb h.next),(6, zc (t:Nat)),(7, sb q),(8, sb (q+1)),(9, sb (q+1+1)),(10, zc z),(28, zc (t:Nat))]/\I=[]/\FxL P W lo h q0 q rm bp p (D++(zrN (rm.lo.z-bp.lo.z) n).flatMap (zh a p rm bp t)) c∧(D++(zrN (rm.lo.z-bp.lo.z) n).flatMap (zh a p rm bp t)).length<=t*4096+n*256)
   ⟨0,_,by simp, .inl rfl,rfl,rfl,rfl,by rw[show zrN (rm.lo.z-bp.lo.z) 0=[]from rfl,ac0,wl];exact g,by rw[show zrN (rm.lo.z-bp.lo.z) 0=[]from rfl,ac0,wl];exact gy f7 ω⟩ ?_
  clear g q4 q8;rintro k e I G ⟨n,z,hz,hn,rfl,rfl,rfl,g,ba⟩;have gt:n<16:=ω
  by_cases hle:z<=rm.hi.z-bp.hi.z
  ·have lz:zp z (rm.hi.z-bp.hi.z) true:=fF hle;have az:zE z 1 (z+1):=fK (aO ω ω);have mz:=Eh hz hle;have fz:=AT (rm.lo.z-bp.lo.z) n (zh a p rm bp t) hz;have i5:zh a p rm bp t z=(zr (rm.lo.y-bp.lo.y) (rm.hi.y-bp.hi.y)).flatMap (wg a p rm bp t z):=rfl;have q4:=g.g4;have q8:=g.g8;have Q:=g.g9;generalize hDz:D++(zrN (rm.lo.z-bp.lo.z) n).flatMap (zh a p rm bp t)=Dz at*;refine Y26 ?_
   refine aY (λk e I c=>∃(j:Nat) (y:Int),y=rm.lo.y-bp.lo.y+(j:Nat)/\(j=0∨y<=rm.hi.y-bp.hi.y+1)/\16-j=k/\e=[(0, .func (.yield l) #[] #[]),(1, sb qa),(2, sb qb),(4, sb h.next),(6, zc (t:Nat)),(7, sb q),(8, sb (q+1)),(9, sb (q+1+1)),(10, zc z),(11, zc y),(28, zc (t:Nat))]/\I=[]/\FxL P W lo h q0 q rm bp p (Dz++(zrN (rm.lo.y-bp.lo.y) j).flatMap (wg a p rm bp t z)) c∧(Dz++(zrN (rm.lo.y-bp.lo.y) j).flatMap (wg a p rm bp t z)).length<=t*4096+n*256+j*16)
    ⟨0,_,by simp, .inl rfl,rfl,rfl,rfl,by rw[show zrN (rm.lo.y-bp.lo.y) 0=[]from rfl,ac0,wl];exact g,by rw[show zrN (rm.lo.y-bp.lo.y) 0=[]from rfl,ac0,wl];exact gy ba ω⟩ ?_
   clear g q4 q8 Q;rintro k e I G ⟨j,y,hy,hj,rfl,rfl,rfl,g,dj⟩;have gg:j<16:=ω
   have q4:=g.g4;have q8:=g.g8;have Q:=g.g9;by_cases hley:y<=rm.hi.y-bp.hi.y
   ·have ly:zp y (rm.hi.y-bp.hi.y) true:=fF hley;have ay:zE y 1 (y+1):=fK (aO ω ω);have my:=Eh hy hley;have fy:=AT (rm.lo.y-bp.lo.y) j (wg a p rm bp t z) hy;have i4:wg a p rm bp t z y=(zr (rm.lo.x-bp.lo.x) (rm.hi.x-bp.hi.x)).flatMap (xQ a p bp t z y):=rfl;generalize hDy:Dz++(zrN (rm.lo.y-bp.lo.y) j).flatMap (wg a p rm bp t z)=Dy at*;refine Y26 ?_
    refine aY (λk e I c=>∃(i:Nat) (x:Int),x=rm.lo.x-bp.lo.x+(i:Nat)/\(i=0∨x<=rm.hi.x-bp.hi.x+1)/\16-i=k/\e=[(0, .func (.yield l) #[] #[]),(1, sb qa),(2, sb qb),(4, sb h.next),(6, zc (t:Nat)),(7, sb q),(8, sb (q+1)),(9, sb (q+1+1)),(10, zc z),(11, zc y),(12, zc x),(28, zc (t:Nat))]/\I=[]/\FxL P W lo h q0 q rm bp p (Dy++(zrN (rm.lo.x-bp.lo.x) i).flatMap (xQ a p bp t z y)) c∧(Dy++(zrN (rm.lo.x-bp.lo.x) i).flatMap (xQ a p bp t z y)).length<=t*4096+n*256+j*16+i)
     ⟨0,_,by simp, .inl rfl,rfl,rfl,rfl,by rw[show zrN (rm.lo.x-bp.lo.x) 0=[]from rfl,ac0,wl];exact g,by rw[show zrN (rm.lo.x-bp.lo.x) 0=[]from rfl,ac0,wl];exact gy dj ω⟩ ?_
    clear g q4 q8 Q;rintro k e I G ⟨i,x,hx,hi,rfl,rfl,rfl,g,da⟩;have ge:i<16:=ω
    have q4:=g.g4;have Q:=g.g9;by_cases hlex:x<=rm.hi.x-bp.hi.x
    ·have lx:zp x (rm.hi.x-bp.hi.x) true:=fF hlex;have ax:zE x 1 (x+1):=fK (aO ω ω);have fj:=Eh hx hlex;have fx:=AT (rm.lo.x-bp.lo.x) i (xQ a p bp t z y) hx;have WG:=g.k.wf hr.wf;have i6:=g.k.next
     have i7:=g.nx;have q7:=g.g7;have ka:=SU (b:=bp) m;have kl:=O3 (b:=bp) m;have C3:=Ki F.li (h:=η G) (.of WG) m (b:=bp) (x:=x) (y:=y) (z:=z) ω ω ω fw fX ω ω;have Z:IsS (mR p bp x y z):=pP m _ _ _ _;have o:xQ a p bp t z y x=if sIn (mR p bp x y z) a then [⟨t,x,y,z,mR p bp x y z⟩]else []:=rfl
     have f9:sIn (mR p bp x y z) a=true->(⟨t,x,y,z,mR p bp x y z⟩:Fi)∈jC a b:=λJ=>by
      refine K _ (List.mem_flatMap.2 ⟨z,mz,List.mem_flatMap.2 ⟨y,my,List.mem_flatMap.2 ⟨x,fj,?_⟩⟩⟩);rw[o,if_pos J];exact List.mem_singleton.2 rfl
     generalize hDx:Dy++(zrN (rm.lo.x-bp.lo.x) i).flatMap (xQ a p bp t z y)=Dx at*;generalize mR p bp x y z=ls at*;have ke:=aU Z.len;have jz:=aN Z.len;have kd:=bZ ls;have hY:(us ls).length=8:=by rw[aF,Z.len]
     refine Y16 ?_;refine cQ (E0:=[(0, .func (.yield l) #[] #[]),(1, sb qa),(2, sb qb),(4, sb h.next),(6, zc (t:Nat)),(7, sb q),(8, sb (q+1)),(9, sb (q+1+1)),(10, zc z),(11, zc y),(12, zc x),(13, sb G.next),(28, zc (t:Nat))]) (P:=λc=>Ext G c∧c.next=G.next+1/\c.get G.next=some (qt (us ls))) ?_ ?_
     ·refine Y6 ?_;refine FW.pu C3 ?_;refine aG (wT) ?_;refine aG (bH ρ ρ YG τ ρ (by exact bZ _)) ?_;refine bA ?_;refine y1 ?_;exact⟨rfl,rfl,rfl,ff ω _ _,rfl,iW _ _⟩
     clear C3 q4 Q q7;rintro G' ⟨x',n',hZ⟩;have aE:=g.ext Y x' ω ae dp;have cX:=aE.pd;have cd:=x'.wf WG;have gA:=ga _ _ cX;have C4:=GW hp F.f35 F.f121 (h:={G' with log:=[]}) (.of cd) Z ha;refine Y4 ?_;refine FW.pu C4 ?_;clear C4;cases J:sIn ls a with
     |false=>
      rw[J,if_neg (by simp)]at o;refine Y21 ?_;refine⟨16-(i+1),ω,i+1,x+1,ω, .inr ω,rfl,rfl,rfl,?_,?_⟩
      ·rw[fx,o,wl,hDx];exact aE
      ·rw[fx,o,wl,hDx];omega
     |true=>
      rw[J,if_pos rfl]at o;refine Y16 ?_;refine oK (fn:= .yield l) (args:=fiV ⟨t,x,y,z,ls⟩) ρ ?_;refine Y.call hp (f9 J) ω cd ω ω ae cX ?_;intro h2 eK eg e9 eQ fd;refine Y13 ?_;refine⟨16-(i+1),ω,i+1,x+1,ω, .inr ω,rfl,rfl,rfl,?_,?_⟩
      ·rw[fx,o,←List.append_assoc,hDx];exact aE.step eK eg e9 eQ fd dp
      ·rw[fx,o,←List.append_assoc,hDx];have:=J3 (L:=([]:List Nat)) da (f:=⟨t,x,y,z,ls⟩);omega
    ·have lx:zp x (rm.hi.x-bp.hi.x) false:=fE ω;have eI:=DH (lo:=rm.lo.x-bp.lo.x) (hi:=rm.hi.x-bp.hi.x) (n:=i) ω ω;have e:(zrN (rm.lo.x-bp.lo.x) i).flatMap (xQ a p bp t z y)=wg a p rm bp t z y:=by rw[eI];rfl
     rw[e]at g da;refine Y23 ?_;refine⟨16-(j+1),ω,j+1,y+1,ω, .inr ω,rfl,rfl,rfl,?_,?_⟩
     ·rw[fy,←List.append_assoc,hDy];exact g
     ·rw[fy,←List.append_assoc,hDy];omega
   ·have ly:zp y (rm.hi.y-bp.hi.y) false:=fE ω;have eJ:=DH (lo:=rm.lo.y-bp.lo.y) (hi:=rm.hi.y-bp.hi.y) (n:=j) ω ω;refine Y23 ?_;refine⟨16-(n+1),ω,n+1,z+1,ω, .inr ω,rfl,rfl,rfl,?_⟩;rw[fz,←List.append_assoc];have e:(zrN (rm.lo.y-bp.lo.y) j).flatMap (wg a p rm bp t z)=zh a p rm bp t z:=by rw[eJ];rfl
    rw[e]at g dj;rw[hDz];exact⟨g,ω⟩
  ·have lz:zp z (rm.hi.z-bp.hi.z) false:=fE ω;have fb:=DH (lo:=rm.lo.z-bp.lo.z) (hi:=rm.hi.z-bp.hi.z) (n:=n) ω ω;have q4:=g.g4;have Q:=g.g9;refine Y22 ?_;rw[fb]at g ba;have C:FxL P W lo h q0 q rm bp p ((List.range (t+1)).flatMap (rW a b)) G:=by rw[hT];exact g
   have f0:((List.range (t+1)).flatMap (rW a b)).length<=(t+1)*4096:=by
    rw[hT];exact gy ba ω
   exact⟨24-(t+1),ω,t+1,ω,rfl,rfl,rfl,C.k,C.pd,by have:=C.nx;omega,C.g4,C.dm,C.w4,f0⟩
 ·obtain rfl:t=24:=ω
  rw[←hf]at U V;refine Y9 ?_;exact ER (hk.log (by rw[hr.log];exact fD.nil _)) rfl ⟨rfl,U,V⟩
def AW(a b:Nat):Int:=if a<b then -1 else if b<a then 1 else 0
def cmpL:List Nat->List Nat->Int
 |a::l,b::m=>if a<b then -1 else if b<a then 1 else cmpL l m
 |_,_=>0
def pH:∀l:List Nat,cmpL l l=0
 |[]=>rfl
 |a::l=>by
  unfold cmpL;rw[if_neg (xc a),if_neg (xc a)];exact pH l
def Cu:∀{l m:List Nat} {j x y:Nat},l.take j=m.take j->l[j]? =some x->m[j]? =some y->x≠y->cmpL l m=AW x y
 |[],_,j,x,y,_,h,_,_=>by simp at h
 |_::_,[],j,x,y,_,_,h,_=>by simp at h
 |a::l,b::m,0,x,y,_,h1,h2,h=>by
  simp at h1 h2;subst h1;subst h2;unfold cmpL AW;by_cases q:a<b
  ·rw[if_pos q,if_pos q]
  ·rw[if_neg q,if_neg q,if_pos ω,if_pos ω]
 |a::l,b::m,j+1,x,y,ht,h1,h2,h=>by
  simp only[Sp,List.cons.injEq]at ht;obtain⟨rfl,ht⟩:=ht;unfold cmpL;rw[if_neg (xc a),if_neg (xc a)];exact Cu ht (by simpa using h1) (by simpa using h2) h
structure A0 (T:Nat->Option aq):Prop where
 p:aK T
 f191:T 104=some f191
 f256:T 140=some f256
 f315:T 166=some f315
def Oj(F:A0 T)(hr:Rdy h)(x:Nat):Pu T 166 [.int .u64 (x:Nat)] h (.bool false):=by
 refine .of F.p F.f315 hr rfl ?_;have a:af .neq (.int .u64 (x:Nat)) (.int .u64 (x:Nat))=some (.bool false):=by rw[I7];simp
 refine Y10 ?_;exact an hr.log rfl rfl
def U0(F:A0 T)(hr:Rdy h)(a b:Nat):Pu T 140 [.int .u64 (a:Nat), .int .u64 (b:Nat)] h (zc (AW a b)):=by
 refine .of F.p F.f256 hr rfl ?_;have c:=Oj F (h:=η h) (.of hr.wf) a;have d:=Oj F (h:=η h) (.of hr.wf) b;have e:=hr.log;unfold AW;by_cases h1:a<b
 ·rw[if_pos h1];have f:af .lss (.int .u64 (a:Nat)) (.int .u64 (b:Nat))=some (.bool true):=dz ω;refine Y6 ?_;refine FW.pu c ?_;refine Y5 ?_;refine FW.pu d ?_;refine Y28 ?_;exact an e rfl rfl
 ·rw[if_neg h1];have f:af .lss (.int .u64 (a:Nat)) (.int .u64 (b:Nat))=some (.bool false):=dG ω;by_cases h2:b<a
  ·rw[if_pos h2];have g:af .gtr (.int .u64 (a:Nat)) (.int .u64 (b:Nat))=some (.bool true):=fh ω;refine Y6 ?_;refine FW.pu c ?_;refine Y5 ?_;refine FW.pu d ?_;refine Y37 ?_;exact an e rfl rfl
  ·rw[if_neg h2];have g:af .gtr (.int .u64 (a:Nat)) (.int .u64 (b:Nat))=some (.bool false):=gT ω;refine Y6 ?_;refine FW.pu c ?_;refine Y5 ?_;refine FW.pu d ?_;refine Y38 ?_;exact an e rfl rfl
def yZ(F:A0 T)(hr:Rdy h){p q c c2:Nat}(r:IsS a)(hb:IsS b)(z:h.get p=some (qt (us a)))(A:h.get q=some (qt (us b))):
 Pu T 104 [sh p 8 c, sh q 8 c2] h (zc (cmpL a b)):=by
 refine .of F.p F.f191 hr rfl ?_;have o:=hr.log;refine Y10 ?_
 refine aY (λm e l n=>∃j:Nat,j<=8/\8-j=m/\e=[(0, sh p 8 c),(1, sh q 8 c2),(9, sh p 8 c),(10, zc 8),(11, zc (j:Nat))]/\l=[]/\h=n∧a.take j=b.take j)
  ⟨0,hK _,rfl,rfl,rfl,rfl,rfl⟩ ?_
 rintro m e l n ⟨j,B,rfl,rfl,rfl,rfl,d⟩;by_cases hlt:j<8
 ·obtain⟨x,i⟩:∃x,a[j]? =some x:=⟨a[j]'(by rw[r.len];exact hlt),bx _⟩;obtain⟨y,k⟩:∃x,b[j]? =some x:=⟨b[j]'(by rw[hb.len];exact hlt),bx _⟩;have v:=jm i;have w:=jm k;have C:=U0 F (h:=η h) (.of hr.wf) x y;have t:zd j 8 true:=dz ω;have D:zt j 8 false:=uu ω;by_cases hxy:x=y
  ·have f:AW x y=0:=by subst hxy;unfold AW;rw[if_neg (xc x),if_neg (xc x)]
   rw[f]at C;have u:zB 0 0 false:=rfl;refine Y37 ?_;refine FW.pu C ?_;refine Y14 ?_;refine⟨8-(j+1),ω,j+1,ω,rfl,rfl,rfl,rfl,?_⟩;rw[ab3,ab3,d,i,k,hxy]
  ·have f:AW x y≠0:=by
    unfold AW;split
    ·decide
    ·rw[if_pos ω];decide
   have s:=Cu d i k hxy;have u:zB (AW x y) 0 true:=iY f;rw[s];refine Y37 ?_;refine FW.pu C ?_;refine Y17 ?_;exact an o rfl rfl
 ·obtain rfl:j=8:=ω
  have g:a=b:=by
   rw[go (by rw[r.len];omega),go (by rw[hb.len];omega)]at d;exact d
  rw[g,pH];have t:zd ((8:Nat):Int) 8 false:=rfl;refine Y25 ?_;exact an o rfl rfl
def RY(F:A0 T)(m:T 137=some f168)(hr:Rdy h)(l:IsS a)(hb:IsS b):Pu T 137 [sv a,sv b] h (zc (cmpL a b)):=by
 refine .of F.p m hr rfl ?_;have e:Ext h ((h.push (qt (cellsOf (sv a)))).push (qt (cellsOf (sv b)))):=((Ext.refl h).push _).push _;have f:((h.push (qt (cellsOf (sv a)))).push (qt (cellsOf (sv b)))).get h.next=some (qt (us a)):=YG
 have g:((h.push (qt (cellsOf (sv a)))).push (qt (cellsOf (sv b)))).get (h.next+1)=some (qt (us b)):=YG;refine Y5 ?_;generalize((h.push (qt (cellsOf (sv a)))).push (qt (cellsOf (sv b))))=H at*;have W:=e.wf hr.wf;have k:=e.log.trans hr.log;have C:=λc d=>yZ F (h:=η H) (.of W) (c:=c) (c2:=d) l hb f g;refine Y2 ?_;refine qZ9 (c:=qh (i:=0) (j:=8) ρ ρ ρ ω ω ω ω) (H:=?_);refine qZ9 (c:=qh (i:=0) (j:=8) ρ ρ ρ ω ω ω ω) (H:=?_);skip;refine qC ?_;refine FW.puD (C _ _) (by(repeat apply aB rfl);exact aQ) ?_;refine Y5 ?_;exact an k rfl rfl
def RZ(F:A0 T)(m:T 103=some f190)(hr:Rdy h)(l:IsS a)(hb:IsS b):Pu T 103 [sv a,sv b] h (zc (cmpL a b)):=by
 refine .of F.p m hr rfl ?_;have e:Ext h ((h.push (qt (cellsOf (sv a)))).push (qt (cellsOf (sv b)))):=((Ext.refl h).push _).push _;have f:((h.push (qt (cellsOf (sv a)))).push (qt (cellsOf (sv b)))).get h.next=some (qt (us a)):=YG
 have g:((h.push (qt (cellsOf (sv a)))).push (qt (cellsOf (sv b)))).get (h.next+1)=some (qt (us b)):=YG;refine Y5 ?_;generalize((h.push (qt (cellsOf (sv a)))).push (qt (cellsOf (sv b))))=H at*;have W:=e.wf hr.wf;have k:=e.log.trans hr.log;have C:=λc d=>yZ F (h:=η H) (.of W) (c:=c) (c2:=d) l hb f g;refine Y2 ?_;refine qZ9 (c:=qh (i:=0) (j:=8) ρ ρ ρ ω ω ω ω) (H:=?_);refine qZ9 (c:=qh (i:=0) (j:=8) ρ ρ ρ ω ω ω ω) (H:=?_);skip;refine qC ?_;refine FW.puD (C _ _) (by(repeat apply aB rfl);exact aQ) ?_;refine Y5 ?_;exact an k rfl rfl
end Go.A.Pk
end
section
namespace Go.A.Pk
variable {T:Nat->Option aq}
def fnF(p q:Nat):Value:= .func (.func 131) #[] #[sb p, sb q]
structure Ud (T:Nat->Option aq):Prop where
 ft:Ue T
 f34:T 60=some f34
 f120:T 99=some f120
def RG(F:Ud T){h:Heap}(hr:Rdy h){a b:List Nat}(e:IsS a)(hb:IsS b):
 Al T 99 [sv a,sv b] h λv h'=>∃p q,v=fnF p q/\h'.get p=some (qt (us a))/\h'.get q=some (qt (us b))/\p<h'.next/\q<h'.next/\h.next<=p/\h.next<=q:=by
 refine .of F.ft.li.p F.f120 hr ?_ ?_
 ·rintro v d c ⟨p,q,rfl,_⟩;cases c
 refine Y10 ?_;exact cW hr.log rfl ⟨h.next,h.next+1,rfl,YG,YG,by show h.next<h.next+2;omega,by show h.next+1<h.next+2;omega,bl _,Hm _⟩
section
open I
end
end Go.A.Pk
end
