/- Walks of functions, plain laws, the table. -/
import Derived.Test.YthnjljpaipomgaaGreatDoorQU0
import Derived.Test.YthnjljpaipomgaaGreatDoorQD
import Derived.Test.YthnjljpaipomgaaGreatDoorQV
import Derived.Test.YthnjljpaipomgaaGreatDoorQF
set_option linter.all false
set_option maxHeartbeats 16000000
set_option maxRecDepth 100000
section
namespace Go.A.Pk
variable {T:Nat->Option aq}
def ints(l:List Int):List Value:=l.map λx=> .int .i64 x
structure QW (T:Nat->Option aq):Prop where
 p:aF T
 f171:T 68=some f171
 f225:T 96=some f225
variable{h:Heap}{s:List Nat}
theorem R5(F:QW T)(hr:Rdy h)(e:IsS s)(c:Ce):Pu T 68 [sv s,ceV c] h (.bool (kA s c)):=by
 refine .of F.p F.f171 hr rfl ?_;have W:=(hr.wf.push (.cells (cellsOf (sv s)) true 1)).push (.cells (cellsOf (ceV c)) true 1);have C:=HB F.p F.f225 (.of W) c;by_cases a:inG c=true
 ·obtain⟨z,i,f,d,rfl⟩:=pL a;rw[a]at C;rw[kL f d,←OE];have g:=nw (lQ (s:=s) (i:=z) (by rw[e.len];exact f));have j:=tf (e.mO z) (xz d);have l:an .neq (.int .u64 ((Nat.land (s.getD z 0) (2 ^ i):Nat):Int)) (.int .u64 0)=some (.bool (decide (Nat.land (s.getD z 0) (2 ^ i)≠0))):=by
   rw[Gf];by_cases q:Nat.land (s.getD z 0) (2 ^ i)=0
   ·rw[q];rfl
   ·rw[decide_eq_true q];have:((Nat.land (s.getD z 0) (2 ^ i):Nat):Int)≠0:=by omega
    simp only[bne,beq_eq_false_iff_ne.2 this];rfl
  have m:an .mul (.int .i64 8) (.int .i64 (jG z i).y)=some (.int .i64 (8*((i / 8:Nat):Int))):=K3 (b:=((i / 8:Nat):Int)) (by omega) (by omega);have n:an .add (.int .i64 (8*((i / 8:Nat):Int))) (.int .i64 (jG z i).x)=some (.int .i64 ((i:Nat):Int)):=jM (b:=((i % 8:Nat):Int)) (by rw[bO]<;>omega);have o:=K4 (k:= .u64) d;have r:fE .u64 ((i:Nat):Int)=((i:Nat):Int):=nX (by omega);refine Y9 ?_;refine FW.puD C (by apply aC rfl;exact aY) ?_;clear C;refine Y4 ?_;refine aO rfl rfl rfl (by exact rfl) (by exact rfl) (by exact rfl) (bJ (by exact rfl) YG (by assumption)) ?_;refine Y6 ?_;refine aO rfl rfl rfl (by exact rfl) (by exact rfl) (by exact rfl) (vO (by exact rfl) (by assumption)) ?_;refine Y9 ?_;exact au hr.log rfl rfl
 ·have a:inG c=false:=by simpa using a
  rw[a]at C;rw[show kA s c=false by unfold kA;rw[a];rfl];refine Y9 ?_;refine FW.puD C (by apply aC rfl;exact aY) ?_;clear C;refine Y21 ?_;exact au hr.log rfl rfl
def ceN(n:Nat):Ce:=⟨(n % 8:Nat),(n / 8 % 8:Nat),(n / 64:Nat)⟩
def ceS(l:List Ce):List Value:=l.flatMap ceL
theorem N2(a b:List Ce):ceS (a++b)=ceS a++ceS b:=by simp[ceS]
def cM(s:List Nat)(n:Nat):List Ce:=((List.range n).map ceN).filter (kA s)
theorem sP(s:List Nat)(n:Nat):cM s (n+1)=cM s n++(if kA s (ceN n)then [ceN n]else []):=by
 unfold cM;rw[A1,tk,wi];congr 1;simp only[pD,List.map_nil,List.filter_cons,List.filter_nil]
theorem mj(s:List Nat)(n:Nat):(cM s n).length<=n:=by
 unfold cM;exact gd (Co ..) (by simp)
structure Jc (T:Nat->Option aq):Prop where
 hr:QW T
 f170:T 43=some f170
theorem JO(F:Jc T)(hr:Rdy h)(t:IsS s):Al T 43 [sv s] h λv c=>Own h.next c 3 v (cM s 512).length (ceS (cM s 512)):=by
 refine .of F.hr.p F.f170 hr ?_ ?_
 ·intro v h1 O q;generalize(cM s 512).length=m at q⊢;generalize ceS (cM s 512)=cs at q⊢;cases q with
  |nil=>exact .nil
  |full=>cases O
 have k8:=bR t.len;have k9:=cS t.len;have L:(h.push (.cells (cellsOf (sv s)) true 1)).get h.next=some (.cells (us s) true 1):=z3 h _
 have Z:Ext h (h.push (.cells (cellsOf (sv s)) true 1)):=(Ext.refl h).push _;have n0:(h.push (.cells (cellsOf (sv s)) true 1)).next=h.next+1:=rfl
 refine Y4 ?_;generalize(h.push (.cells (cellsOf (sv s)) true 1))=H at*;refine Y8 ?_;let J:=λ(n:Nat) (v:Value) (c:Heap)=>Ext h c∧h.next<c.next/\c.get h.next=some (.cells (us s) true 1)/\Own (h.next+1) c 3 v (cM s n).length (ceS (cM s n))
 refine cT (λm e g c=>∃(z:Nat) (v:Value),z<=8/\m=8-z/\e=[(1, .pointer (some ⟨h.next,0,none⟩)),(3,v),(4, .int .i64 (z:Nat))]/\g=[]/\J (z*64) v c)
  ⟨0,_,by omega,rfl,rfl,rfl,Z,by omega,L, .nil⟩ ?_
 rintro m e g H1 ⟨z,v,U,rfl,rfl,rfl,u⟩;by_cases hz:z<8
 ·refine Y14 ?_
  refine cT (λm e g c=>∃(y:Nat) (v:Value),y<=8/\m=8-y/\e=[(1, .pointer (some ⟨h.next,0,none⟩)),(3,v),(4, .int .i64 (z:Nat)),(5, .int .i64 (y:Nat))]/\g=[]/\J (z*64+y*8) v c)
   ⟨0,v,by omega,rfl,rfl,rfl,u⟩ ?_
  rintro m e g H2 ⟨y,v,S,rfl,rfl,rfl,A⟩;clear u;by_cases hy:y<8
  ·refine Y14 ?_
   refine cT (λm e g c=>∃(x:Nat) (v:Value),x<=8/\m=8-x/\e=[(1, .pointer (some ⟨h.next,0,none⟩)),(3,v),(4, .int .i64 (z:Nat)),(5, .int .i64 (y:Nat)),(6, .int .i64 (x:Nat))]/\g=[]/\J (z*64+y*8+x) v c)
    ⟨0,v,by omega,rfl,rfl,rfl,A⟩ ?_
   rintro m e g j ⟨x,v,Q,rfl,rfl,rfl,G⟩;clear A;by_cases hx:x<8
   ·obtain⟨x3,V,D,o⟩:=G;refine Y10 ?_;refine cI (E0:=[(1, .pointer (some ⟨h.next,0,none⟩)),(3,v),(4, .int .i64 (z:Nat)),(5, .int .i64 (y:Nat)),(6, .int .i64 (x:Nat)),(7, .pointer (some ⟨j.next,0,none⟩))]) (P:=λc=>Ext j c∧c.next=j.next+1/\c.get j.next=some (.cells (ceL ⟨(x:Nat),(y:Nat),(z:Nat)⟩) true 1)) ?_ ?_
    ·refine Y7 ?_;refine bH ?_;refine y1 ?_;exact⟨rfl,rfl,rfl,fK (by omega) _ _,rfl,gY _ _⟩
    rintro k ⟨B,n4,g4⟩;have r:ceN (z*64+y*8+x)=⟨(x:Nat),(y:Nat),(z:Nat)⟩:=by
     unfold ceN;rw[show(z*64+y*8+x) % 8=x by omega,show(z*64+y*8+x) / 8 % 8=y by omega,show(z*64+y*8+x) / 64=z by omega]
    have f:=sP s (z*64+y*8+x);rw[r]at f;have N:=mj s (z*64+y*8+x);have a:=x3.trans B;have I:=a.wf hr.wf;have E:=(B.old _ V).trans D;have i:=o.ext B;generalize hce2:(⟨(x:Nat),(y:Nat),(z:Nat)⟩:Ce)=ce at*;have C:=R5 F.hr (.of I) t ce;have ck:cG 3 (cw 0 (ceL ce))=ceL ce:=rfl;have K:Nat.beq (cF (ceL ce)) 3=true:=rfl;clear D o;refine Y4 ?_;refine FW.pu C ?_;clear C;cases l:kA s ce with
    |false=>
     rw[l,if_neg (by simp),oC]at f;refine Y10 ?_;refine⟨8-(x+1),by omega,x+1,v,by omega,rfl,rfl,rfl,a,by omega,E,?_⟩;show Own _ _ _ _ (cM s (z*64+y*8+x+1)).length (ceS (cM s (z*64+y*8+x+1)));rw[f];exact i
    |true=>
     rw[l,if_pos rfl]at f;refine Y5 ?_;refine aG (iu (by exact rfl) (by exact rfl)) ?_;refine Qu (lo:=h.next+1) (sz:=3) (v:=v) (c1:=ceL ce) (i.ext ((Ext.refl k).push _)) (by omega) (by omega) (by omega) (by show h.next+1<=k.next+1;omega) (by omega) (by exact rfl) (by exact rfl) (jy (cs:=ceL ce) YG rfl rfl) rfl rfl ?_;intro Y M X x5;have d:Lx (h.next+1) k M:=((Lx.refl (h.next+1) k).push (by omega) _).trans x5;have W:=d.next
     refine yM ?_;refine bH ?_;refine Y8 ?_;refine⟨8-(x+1),by omega,x+1,Y,by omega,rfl,rfl,rfl,⟨gd a.next W,d.log.trans a.log,λb l=>(d.old b (by omega)).trans (a.old b l),λw=>d.wf (a.wf w)⟩,by omega,(d.old _ (by omega)).trans E,?_⟩;show Own _ _ _ _ (cM s (z*64+y*8+x+1)).length (ceS (cM s (z*64+y*8+x+1)));rw[f,ec,N2];have e:ceS [ce]=ceL ce:=by simp[ceS]
     rw[e];exact X
   ·obtain rfl:x=8:=by omega
    refine Y17 ?_;refine⟨8-(y+1),by omega,y+1,v,by omega,rfl,rfl,rfl,?_⟩;rw[show z*64+(y+1)*8=z*64+y*8+8 by omega];exact G
  ·obtain rfl:y=8:=by omega
   refine Y17 ?_;refine⟨8-(z+1),by omega,z+1,v,by omega,rfl,rfl,rfl,?_⟩;rw[show(z+1)*64=z*64+8*8 by omega];exact A
 ·obtain rfl:z=8:=by omega
  obtain⟨x1,n1,g1,o⟩:=u;refine Y16 ?_;exact dG (x1.log.trans hr.log) rfl (o.low (ti _))
def rZ(s:List Nat)(z:Nat):List Ce:=(bitsOf (s.getD z 0)).map (jG z)
variable{z:Nat}
theorem JN{i:Nat}(hi:i<64):ceN (z*64+i)=jG z i:=by
 unfold ceN jG;rw[show(z*64+i) % 8=i % 8 by omega,show(z*64+i) / 8 % 8=i / 8 by omega,show(z*64+i) / 64=z by omega]
theorem nh(s:List Nat)(c:z<8):cM s ((z+1)*64)=cM s (z*64)++rZ s z:=by
 unfold cM rZ bitsOf;rw[show(z+1)*64=z*64+64 by omega,List.range_add,tk,wi];congr 1;rw[List.map_map,List.filter_map];have b:(List.range 64).filter (kA s ∘ (ceN ∘ λx=>z*64+x))=(List.range 64).filter (Nat.testBit (s.getD z 0)):=by
  apply yn;intro i a;have a:=List.mem_range.1 a;show kA s (ceN (z*64+i))=_;rw[JN a,kL c a]
 rw[b];apply List.map_congr_left;intro i a;have a:=List.mem_range.1 (List.mem_filter.1 a).1;exact JN a
variable{a b:List Nat}
theorem CK{f:Nat->Nat->Nat}(g:IsS a)(hb:IsS b)(c:z<8):(List.zipWith f a b).getD z 0=f (a.getD z 0) (b.getD z 0):=by
 have d:=lQ (s:=a) (i:=z) (by rw[g.len];exact c);have e:=lQ (s:=b) (i:=z) (by rw[hb.len];exact c);rw[kK,Fr,d,e];rfl
variable{c:Ce}
theorem mH(a:¬inG c=true):kA s c=false:=by
 unfold kA;rw[Bool.not_eq_true]at a;rw[a];rfl
theorem uw(f:IsS a)(hb:IsS b)(c:Ce):kA (lE a b) c=(kA a c||kA b c):=by
 by_cases hc:inG c=true
 ·obtain⟨z,i,d,e,rfl⟩:=pL hc;rw[kL d e,kL d e,kL d e];unfold lE xX;rw[CK f hb d];exact Nat.testBit_or ..
 ·rw[mH hc,mH hc,mH hc];rfl
theorem HL{n:Nat}(h:c∈cM s n):kA s c=true:=(List.mem_filter.1 h).2
structure Dou where
 c:Ce
 ids:List Int
 is:Bool
 e:Int
def c0:Ce:=⟨0,0,0⟩
end Go.A.Pk
end
section
namespace Go.A.Pk
variable {T:Nat->Option aq}
section
open I
end
variable{base:Nat}{rnd:Option Nat}{h:Heap}
theorem WE.vh{c:aN}{Q:XQ}{e:Env}{a:Dfs}(b:∀hA,hA=h->WE T base rnd c Q e a hA):WE T base rnd c Q e a h:=b h rfl
variable{lo:Nat}
theorem Nt{Q:XQ}{e:Env}{i:Dfs}{sz a n:Nat}{dst:Option Nat}{os:List aP}{x y:Operand}{v u:Value}{cs c1:List Value}(s:Own lo h sz v n cs)(r:n<1000000)(g:0<sz)(hb:a<=100000)
 (l:ev h e x=some v)(m:ev h e y=some u)(k:dn h sz u=some (c1,1))(f:c1.length=sz)(h1:eC c1=true)
 (j:∀h',Own h.next h' sz (.slice (some ⟨h.next,0,none⟩) (n+1) UNK) (n+1) (cs++c1)->h'.next=h.next+1->(∀z∈h'.log,lo<=z∨z∈h.log)->(WF h->WF h')->(∀z,z<h.next->z<lo->h'.get z=h.get z)->WO T base rnd Q os (bN e dst (.slice (some ⟨h.next,0,none⟩) (n+1) UNK)) i h'):WO T base rnd Q (⟨dst, .append sz a x y,none⟩::os) e i h:=by
 have d:(2*(n+1)+768)*a<=281474976710656:=by
  have:(2*(n+1)+768)*a<=2000768*100000:=Do (by omega) hb;omega
 cases s with
 |nil=>
  refine aG (nD (n:=1) l m k (by omega) (by simpa using d) rfl) ?_;exact j _ (Own.full (lo:=h.next) (h:=h.push (.cells c1 true sz)) (sz:=sz) (q:=h.next) (n:=1) (cs:=c1) (bl _) (go _) (z3 _ _) (by omega) (by omega)) rfl (λz c=> .inr c) (λw=>w.push _) (λz c _=>z4 c)
 | @full q _ _ q1 q2 q3 q4 q5=>
   refine aG (jZ (n:=1) (vs:=cs) (ws:=cs++c1) l m k (by omega) q3 q4 g h1 d (dI _ _)) ?_;exact j _ (.full (bl _) (go _) (z3 _ _) (by rw[ec,q4,f,sx,A3]) (by omega)) rfl (λz c=>by
    rcases dy (b:=q) (o:= .dead) c with rfl|c
    ·exact .inl q1
    ·exact .inr c) (λw=>(w.as (AS.wr base _ q .dead)).push _) (λz c p=>(z4 (by exact c)).trans (z5 (by omega)))
theorem zA(s:List Nat){n:Nat}:∀m,∃r,cM s (n+m)=cM s n++r
 |0=>⟨[],by simp⟩
 |m+1=>by
  obtain⟨r,e⟩:=zA s (n:=n) m;exact⟨r++(if kA s (ceN (n+m))then [ceN (n+m)]else []),by rw[←Nat.add_assoc,sP,e,rr]⟩
structure FH (T:Nat->Option aq):Prop where
 p:aF T
 f123:T 47=some f123
 f213:T 77=some f213
 f214:T 78=some f214
 f264:T 101=some f264
 f265:T 102=some f265
 f266:T 103=some f266
structure PCe (l q:Nat) (H0:Heap) (L:bM) (done:List Ce) (H:Heap):Prop where
 old:∀z,z<q->H.get z=H0.get z
 loop:H.get l=some L
 nx:l<H.next
 val:∃v,H.get q=some (.cells [v] true 1)/\Own (l+1) H 3 v done.length (ceS done)
def fnC(q0:Nat):Value:= .func (.func 102) #[] #[.pointer (some ⟨q0,0,none⟩)]
variable{s:List Nat}
theorem Cr(F:FH T)(hr:Rdy h)(c:IsS s):
 Al T 78 [sv s] h λv h'=>∃q,v=fnC q/\h'.get q=some (.cells (us s) true 1)/\h.next<=q/\q<h'.next:=by
 refine .of F.p F.f214 hr ?_ ?_
 ·rintro v b a ⟨q,rfl,_⟩;cases a
 refine Y9 ?_;exact dG hr.log rfl ⟨h.next,rfl,z3 _ _,bl _,go _⟩
theorem zy(F:FH T)(hr:Rdy h){q0 l N:Nat}(G:IsS s){P:List Ce->Heap->Prop}{S:Heap->Prop}(X:N<=h.next)(B:lo<=h.next)(ae:l<N)(Y:Jj T lo N l ceV (cM s 512) P S)
 (g0:h.get q0=some (.cells (us s) true 1))(D:∀d H,P d H->Tab H)(h0:P [] h):
 GrX T 102 [.func (.yield l) #[] #[], .pointer (some ⟨q0,0,none⟩)] h lo (P (cM s 512)) S:=by
 have A:l<h.next:=by omega
 have hp:=F.p;have k8:=bR G.len;have k9:=cS G.len;refine GrX.of (l:=l) hp F.f265 B A (λh1 h2 hn ha q=>Y.fu _ _ _ q (gd X hn) λx I=>ha x (by omega)) Y.GB ?_;refine Y5 ?_
 refine cT (λk e w t=>∃z:Nat,z<=8/\8-z=k/\e=[(0, .func (.yield l) #[] #[]),(6,sv s),(7, .int .i64 (z:Nat))]/\w=[]/\Lk lo h t∧P (cM s (z*64)) t)
  ⟨0,by omega,rfl,rfl,rfl, .refl _ _,h0⟩ ?_
 rintro k e w t ⟨z,ar,rfl,rfl,rfl,g,j⟩;by_cases hz:z<8
 ·have e1:bK (us s).toArray.toList (z*1)=some (.int .u64 ((s.getD z 0:Nat):Int)):=by
   rw[xn,rt,cH];unfold us;rw[rb,lQ (by rw[G.len];exact hz)];rfl
  have W:=G.mO z;obtain⟨E,u⟩:∃r,cM s 512=cM s (z*64)++rZ s z++r:=by
   obtain⟨r,e⟩:=zA s (n:=(z+1)*64) (512-(z+1)*64);rw[show(z+1)*64+(512-(z+1)*64)=512 by omega,nh s hz]at e;exact⟨r,e⟩
  have i:=nh s hz;have U:rZ s z=(bitsOf (s.getD z 0)).map (jG z):=rfl;generalize I:s.getD z 0=x0 at*;generalize rZ s z=pl at*;refine Y11 ?_;refine aG (Ar (by exact rfl) (by exact rfl) (by omega) (by assumption)) ?_;refine Y4 ?_
  refine cT (λk e w y=>∃(x:Nat) (d:List Ce),x<U64/\d++(bitsOf x).map (jG z)=pl/\(bitsOf x).length=k/\e=[(0, .func (.yield l) #[] #[]),(3, .int .i64 (z:Nat)),(4, .int .u64 (x:Nat)),(6,sv s),(7, .int .i64 (z:Nat))]/\w=[]/\Lk lo h y∧P (cM s (z*64)++d) y)
   ⟨x0,[],W,by rw[U];rfl,rfl,rfl,rfl,g,by rw[oC];exact j⟩ ?_
  clear j g t;rintro k e w t ⟨x,d,f,o,rfl,rfl,rfl,g,j⟩;by_cases I:x=0
  ·subst I;rw[Ch]at o;have o:d=pl:=by simpa using o
   subst o;rw[←i]at j;refine Y16 ?_;exact⟨8-(z+1),by omega,z+1,by omega,rfl,rfl,rfl,g,j⟩
  ·obtain⟨b,m,c⟩:=Dj x I;have Z:=(AX c f).1;have v:=Cg c f;have m1:an .neq (.int .u64 (x:Nat)) (.int .u64 0)=some (.bool true):=jc (by omega);have C:=Wd F.p F.f266 (h:={t with log:=[]}) (.of (g.wf hr.wf)) (show Tab t from D _ _ j) f c;have m2:an .rem (.int .i64 (b:Nat)) (.int .i64 8)=some (.int .i64 ((b % 8:Nat):Int)):=Sj;have m3:an .quo (.int .i64 (b:Nat)) (.int .i64 8)=some (.int .i64 ((b / 8:Nat):Int)):=Sh (by omega);have m4:an .sub (.int .u64 (x:Nat)) (.int .u64 1)=some (.int .u64 ((x-1:Nat):Int)):=mQ (by rw[show(x:Int)-1=((x-1:Nat):Int)by omega];exact nX (by unfold U64 at f;omega));have m5:=tf (a:=x) (b:=x-1) f (sh (Nat.sub_le x 1) f);rw[v]at o⊢;have O:Nat.land x (x-1)<U64:=AR f;generalize Nat.land x (x-1)=x' at*;rw[pD]at o;have V:cM s 512=(cM s (z*64)++d)++jG z b::((bitsOf x').map (jG z)++E):=by
    rw[u,←o];simp
   refine Y13 ?_;refine FW.pu C ?_;clear C;refine Y10 ?_;refine mX (fn:= .yield l) (args:=[ceV (jG z b)]) (by rfl) ?_;refine Y.call hp (by rw[V];simp) (g.wf hr.wf) (gd B g.next) (gd X g.next) A j ?_ ?_
   rotate_left
   ·intro h9 M Q K;refine Y12 ?_;exact J4 ((g.trans M).log (by rw[hr.log];exact eR.nil _)) rfl Q K
   intro h2 L _ J;refine Y13 ?_;exact⟨(bitsOf x').length,by simp,x',d++[jG z b],O,by rw[←o];simp,rfl,rfl,rfl,g.trans L,by rw[←List.append_assoc];exact J⟩
 ·obtain rfl:z=8:=by omega
  refine Y9 ?_;exact J3 (g.log (by rw[hr.log];exact eR.nil _)) rfl j
end Go.A.Pk
end
section
namespace Go.A.Pk
variable {T:Nat->Option aq}
structure Bx where
 lo:Ce
 hi:Ce
 deriving DecidableEq
def bxL(b:Bx):List Value:=ceL b.lo++ceL b.hi
def bxV(b:Bx):Value:= .agg (bxL b).toArray
def G9(b:Bx)(c:Ce):Bx:=⟨⟨mi b.lo.x c.x,mi b.lo.y c.y,mi b.lo.z c.z⟩,⟨mx b.hi.x c.x,mx b.hi.y c.y,mx b.hi.z c.z⟩⟩
def bx0:Bx:=⟨⟨7,7,7⟩,⟨0,0,0⟩⟩
def bxS(l:List Ce):Bx:=l.foldl G9 bx0
theorem JJ(l:List Ce)(c:Ce):bxS (l++[c])=G9 (bxS l) c:=by unfold bxS;rw[yr];rfl
section
open I
def vV:aN:=I.R [g 5 (.new [O,O,O]),S 3 5 16] [4,5]
def vX:aN:=(.block 1 (Q (I.R [A 17 0 4,A 18 3 4,M 6 17,M 7 18] [5,6,7]) (Q (.draw [M 19 6,M 20 6,M 21 6,M 22 6,g 23 (.cg (t 22)),A 24 0 23,L 25 24,A 26 0 5,L 27 26,g 28 (.eF false [(t 25),(t 27)]),M 29 6,g 30 (.cg (t 29)),A 31 1 30,L 32 31,A 33 1 5,L 34 33,g 35 (.eF false [(t 32),(t 34)]),M 36 6,g 37 (.cg (t 36)),A 38 2 37,L 39 38,A 40 2 5,L 41 40,g 42 (.eF false [(t 39),(t 41)]),g 43 (.cg (t 19)),A 44 0 43,S 1 44 28,g 45 (.cg (t 20)),A 46 1 45,S 1 46 35,g 47 (.cg (t 21)),A 48 2 47,S 1 48 42] [0,1,2,3,4,5,6,7,8,9,10,11,12,13,14,15,16,17,18,19,20,21,22,23,24,25,26,27,28,29,30,31,32] [0,0,0,0,8,24,56,0,128,504,0,1024,3072,7168,0,16384,64512,0,131072,393216,917504,0,2097152,8257536,1982457,18759673,52314105,119537659,253755387,522190843,1073741823,2147483647,4294967295] [5,7])
 (.draw [M 49 7,M 50 7,M 51 7,M 52 7,g 53 (.cg (t 52)),A 54 0 53,L 55 54,A 56 0 5,L 57 56,g 58 (.eF true [(t 55),(t 57)]),M 59 7,g 60 (.cg (t 59)),A 61 1 60,L 62 61,A 63 1 5,L 64 63,g 65 (.eF true [(t 62),(t 64)]),M 66 7,g 67 (.cg (t 66)),A 68 2 67,L 69 68,A 70 2 5,L 71 70,g 72 (.eF true [(t 69),(t 71)]),g 73 (.cg (t 49)),A 74 0 73,S 1 74 58,g 75 (.cg (t 50)),A 76 1 75,S 1 76 65,g 77 (.cg (t 51)),A 78 2 77,S 1 78 72] [0,1,2,3,4,5,6,7,8,9,10,11,12,13,14,15,16,17,18,19,20,21,22,23,24,25,26,27,28,29,30,31,32] [0,0,0,0,8,24,56,0,128,504,0,1024,3072,7168,0,16384,64512,0,131072,393216,917504,0,2097152,8257536,1982457,18759673,52314105,119537659,253755387,522190843,1073741823,2147483647,4294967295] []))))
end
theorem JK(L:aF T){H:Heap}(hr:Rdy H){q l lo N:Nat}{F u:Value}{b:Bx}{c:Ce}(C:lo<=q)(M:q<l)(B:l<N)
 (gl:H.get l=some (.loop [(2,u),(4, .pointer (some ⟨q,0,none⟩)),(15,F)] [16] vV vX 0 .normal))
 (v:H.get q=some (.cells (bxL b) true 1)){S:Heap->Prop}:
 FW T (.yield l) [ceV c] H λr p=>(∀z∈p.log,lo<=z/\z<N)/\(r= .ret (.bool true)/\(p.get q=some (.cells (bxL (G9 b c)) true 1)/\(∀z,z<H.next->z≠q->p.get z=H.get z)/\H.next<=p.next)∨r= .ret (.bool false)/\l∈p.log/\S p):=by
 have I:q≠l:=by omega
 have G:=hr.wf.bP v;have O:=hr.wf.bP gl;refine FW.NL L (R:=λp=>p.get q=some (.cells (bxL (G9 b c)) true 1)/\(∀z,z<H.next->z≠q->p.get z=H.get z)/\H.next<=p.next) gl rfl O ⟨by omega,B⟩ ?_;unfold vV;refine Y3 ?_;refine bH ?_;refine y1 ?_;refine⟨rfl,YG,?_⟩;unfold vX;refine lF ?_;refine WE.vh ?_;intro m j;have E:∀z,z<H.next->z≠l->H.get z=m.get z:=λz g x=>by rw[j];symm;simp(disch:=first|omega|(simp only[z1,z2];omega))only[z5,z4]
 have y:m.get H.next=some (.cells (ceL c) true 1):=by rw[j];(simp(disch:=first|omega|(simp only[z1,z2];omega))only[z3,z4,z5,z6,z7,z1,z2,gl,v];exact rfl)
 have P:m.get l=some (.loop [(2,u),(4, .pointer (some ⟨q,0,none⟩)),(15,F)] [16] vV vX 1 .normal):=by rw[j];(simp(disch:=first|omega|(simp only[z1,z2];omega))only[z3,z4,z5,z6,z7,z1,z2,gl,v,y];exact rfl)
 have Q:m.next=H.next+1:=by rw[j];rfl
 have J:m.log=[]:=by rw[j];simp(disch:=first|omega|(simp only[z1,z2];omega))only[Heap.aD,Heap.wO];exact hr.log
 have U:WF m:=by rw[j];exact(((hr.wf.push _).as (AS.wr _ _ _ _)).as (AS.wr _ _ _ _))
 clear j;have s:=(E q G I).symm.trans v;obtain⟨⟨n,a,e⟩,⟨o,d,f⟩⟩:=b;obtain⟨i,k,t⟩:=c;unfold bxL ceL at s;dsimp only[wc,vd]at s;unfold ceL at y;dsimp only at y;clear v;refine Y17 ?_;refine aO rfl rfl rfl (by exact rfl) (by exact rfl) (by exact rfl) (rC (by exact rfl) (by exact rfl)) ?_;refine Y6 ?_;refine aO rfl rfl rfl (by exact rfl) (by exact rfl) (by exact rfl) (rC (by exact rfl) (by exact rfl)) ?_;refine Y6 ?_;refine aO rfl rfl rfl (by exact rfl) (by exact rfl) (by exact rfl) (rC (by exact rfl) (by exact rfl)) ?_;refine Y2 ?_;refine iC (vs:=[.int .i64 n, .int .i64 a, .int .i64 e, .int .i64 o, .int .i64 d, .int .i64 f]) (ws:=[.int .i64 (mi n i), .int .i64 a, .int .i64 e, .int .i64 o, .int .i64 d, .int .i64 f]) rfl rfl rfl (by exact rfl) (by exact rfl) (by exact rfl) (s) (by exact rfl) (by exact rfl) (by show q<m.next;omega) (by(repeat apply aC rfl);apply ah rfl (af rfl (rC (by exact rfl) (by exact rfl)) (by exact bY _ _)) rfl;apply ah rfl (af rfl (bJ (by exact rfl) YG (by exact rfl)) (by exact bY _ _)) rfl;apply ah rfl (af rfl (cN (by exact rfl)) (by exact aV _)) rfl;(repeat apply aC rfl);apply ah rfl (af rfl (rC (by exact rfl) (by exact rfl)) (by exact bY _ _)) rfl;apply ah rfl (af rfl (bJ (by exact rfl) YG (by exact rfl)) (by exact bY _ _)) rfl;apply ah rfl (af rfl (cN (by exact rfl)) (by exact aV _)) rfl;(repeat apply aC rfl);apply ah rfl (af rfl (dD (by exact rfl)) (by exact aV _)) rfl;apply ah rfl (af rfl (dD (by exact rfl)) (by exact aV _)) rfl;apply aC rfl;exact aY) ?_;refine Y2 ?_;refine iC (vs:=[.int .i64 (mi n i), .int .i64 a, .int .i64 e, .int .i64 o, .int .i64 d, .int .i64 f]) (ws:=[.int .i64 (mi n i), .int .i64 (mi a k), .int .i64 e, .int .i64 o, .int .i64 d, .int .i64 f]) rfl rfl rfl (by exact rfl) (by exact rfl) (by exact rfl) (Heap.aI (s)) (by exact rfl) (by exact rfl) (by show q<m.next;omega) (by(repeat apply aC rfl);apply ah rfl (af rfl (rC (by exact rfl) (by exact rfl)) (by exact bY _ _)) rfl;apply ah rfl (af rfl (bJ (by exact rfl) YG (by exact rfl)) (by exact bY _ _)) rfl;apply ah rfl (af rfl (cN (by exact rfl)) (by exact aV _)) rfl;(repeat apply aC rfl);apply ah rfl (af rfl (dD (by exact rfl)) (by exact aV _)) rfl;apply aC rfl;exact aY) ?_;refine Y2 ?_;refine iC (vs:=[.int .i64 (mi n i), .int .i64 (mi a k), .int .i64 e, .int .i64 o, .int .i64 d, .int .i64 f]) (ws:=[.int .i64 (mi n i), .int .i64 (mi a k), .int .i64 (mi e t), .int .i64 o, .int .i64 d, .int .i64 f]) rfl rfl rfl (by exact rfl) (by exact rfl) (by exact rfl) (Heap.aI (Heap.aI (s))) (by exact rfl) (by exact rfl) (by show q<m.next;omega) (by(repeat apply aC rfl);exact aY) ?_;refine Y13 ?_;refine aO rfl rfl rfl (by exact rfl) (by exact rfl) (by exact rfl) (uF (by exact rfl) (by exact rfl)) ?_;refine Y6 ?_;refine aO rfl rfl rfl (by exact rfl) (by exact rfl) (by exact rfl) (uF (by exact rfl) (by exact rfl)) ?_;refine Y6 ?_;refine aO rfl rfl rfl (by exact rfl) (by exact rfl) (by exact rfl) (uF (by exact rfl) (by exact rfl)) ?_;refine Y2 ?_;refine iC (vs:=[.int .i64 (mi n i), .int .i64 (mi a k), .int .i64 (mi e t), .int .i64 o, .int .i64 d, .int .i64 f]) (ws:=[.int .i64 (mi n i), .int .i64 (mi a k), .int .i64 (mi e t), .int .i64 (mx o i), .int .i64 d, .int .i64 f]) rfl rfl rfl (by exact rfl) (by exact rfl) (by exact rfl) (Heap.aI (Heap.aI (Heap.aI (s)))) (by exact rfl) (by exact rfl) (by show q<m.next;omega) (by(repeat apply aC rfl);apply ah rfl (af rfl (uF (by exact rfl) (by exact rfl)) (by exact bY _ _)) rfl;apply ah rfl (af rfl (bJ (by exact rfl) YG (by exact rfl)) (by exact bY _ _)) rfl;apply ah rfl (af rfl (cN (by exact rfl)) (by exact aV _)) rfl;(repeat apply aC rfl);apply ah rfl (af rfl (uF (by exact rfl) (by exact rfl)) (by exact bY _ _)) rfl;apply ah rfl (af rfl (bJ (by exact rfl) YG (by exact rfl)) (by exact bY _ _)) rfl;apply ah rfl (af rfl (cN (by exact rfl)) (by exact aV _)) rfl;(repeat apply aC rfl);apply ah rfl (af rfl (dD (by exact rfl)) (by exact aV _)) rfl;apply ah rfl (af rfl (dD (by exact rfl)) (by exact aV _)) rfl;apply aC rfl;exact aY) ?_;refine Y2 ?_;refine iC (vs:=[.int .i64 (mi n i), .int .i64 (mi a k), .int .i64 (mi e t), .int .i64 (mx o i), .int .i64 d, .int .i64 f]) (ws:=[.int .i64 (mi n i), .int .i64 (mi a k), .int .i64 (mi e t), .int .i64 (mx o i), .int .i64 (mx d k), .int .i64 f]) rfl rfl rfl (by exact rfl) (by exact rfl) (by exact rfl) (Heap.aI (Heap.aI (Heap.aI (Heap.aI (s))))) (by exact rfl) (by exact rfl) (by show q<m.next;omega) (by(repeat apply aC rfl);apply ah rfl (af rfl (uF (by exact rfl) (by exact rfl)) (by exact bY _ _)) rfl;apply ah rfl (af rfl (bJ (by exact rfl) YG (by exact rfl)) (by exact bY _ _)) rfl;apply ah rfl (af rfl (cN (by exact rfl)) (by exact aV _)) rfl;(repeat apply aC rfl);apply ah rfl (af rfl (dD (by exact rfl)) (by exact aV _)) rfl;apply aC rfl;exact aY) ?_;refine Y2 ?_;refine iC (vs:=[.int .i64 (mi n i), .int .i64 (mi a k), .int .i64 (mi e t), .int .i64 (mx o i), .int .i64 (mx d k), .int .i64 f]) (ws:=[.int .i64 (mi n i), .int .i64 (mi a k), .int .i64 (mi e t), .int .i64 (mx o i), .int .i64 (mx d k), .int .i64 (mx f t)]) rfl rfl rfl (by exact rfl) (by exact rfl) (by exact rfl) (Heap.aI (Heap.aI (Heap.aI (Heap.aI (Heap.aI (s)))))) (by exact rfl) (by exact rfl) (by show q<m.next;omega) (by(repeat apply aC rfl);exact aY) ?_;refine Y3 ?_;refine⟨⟨_,YG,rfl⟩,λz g=> ?_, .inl ⟨rfl,λV K w A=> ?_⟩⟩
 ·have D:z=q:=by
   rcases dy g with h|g
   ·exact h
   rcases dy g with h|g
   ·exact h
   rcases dy g with h|g
   ·exact h
   rcases dy g with h|g
   ·exact h
   rcases dy g with h|g
   ·exact h
   rcases dy g with h|g
   ·exact h
   rw[J]at g;cases g
  subst D;exact⟨C,by omega⟩
 ·refine⟨(w q G I).trans (Heap.aI (Heap.aI (Heap.aI (Heap.aI (Heap.aI (Heap.aI (s))))))),λz g x=> ?_,K⟩;by_cases hl:z=l
  ·subst hl;rw[gl];exact A
  ·refine(w z g hl).trans ?_;refine Eq.trans ?_ (E z g hl).symm;simp only[z5 x]
structure PXo (l q:Nat) (H0:Heap) (L:bM) (f:List Ce->List Value) (done:List Ce) (H:Heap):Prop where
 old:∀z,z<l->z≠q->H.get z=H0.get z
 loop:H.get l=some L
 val:H.get q=some (.cells (f done) true 1)
theorem PXo.fu{l q:Nat}{c:Heap}{L:bM}{f:List Ce->List Value}(e:q<l)(done:List Ce)(H a:Heap)(p:PXo l q c L f done H)(_:l+1<=a.next)(h:∀x,x<l+1->a.get x=H.get x):PXo l q c L f done a:=
 ⟨λz d b=>(h z (by omega)).trans (p.old z d b),(h l (by omega)).trans p.loop,(h q (by omega)).trans p.val⟩
def jV(s:List Nat):Bx×Bool:=if s=s0 then(⟨c0,c0⟩,false)else(bxS (cM s 512),true)
def RI(p:Bx×Bool):Value:= .tuple #[bxV p.1, .bool p.2]
structure QO (T:Nat->Option aq):Prop where
 cp:FH T
 f210:T 106=some f210
variable{h:Heap}
theorem zw(F:QO T)(hr:Rdy h)(hg:Tab h)(h2:0<h.next){s:List Nat}(j:IsS s):Pu T 106 [sv s] h (RI (jV s)):=by
 have Z:=F.cp.p;refine .of Z F.f210 hr rfl ?_;have k8:=bR j.len;have k9:=cS j.len;have L:Ext h ((h.push (.cells (cellsOf (sv s)) true 1)).push (.cells [I.O,I.O,I.O,I.O,I.O,I.O] true 1)):=((Ext.refl h).push _).push _;have U:((h.push (.cells (cellsOf (sv s)) true 1)).push (.cells [I.O,I.O,I.O,I.O,I.O,I.O] true 1)).get h.next=some (.cells (us s) true 1):=(z4 (go _)).trans (z3 h _)
 have V:((h.push (.cells (cellsOf (sv s)) true 1)).push (.cells [I.O,I.O,I.O,I.O,I.O,I.O] true 1)).get (h.next+1)=some (.cells [I.O,I.O,I.O,I.O,I.O,I.O] true 1):=z3 _ _;have n0:((h.push (.cells (cellsOf (sv s)) true 1)).push (.cells [I.O,I.O,I.O,I.O,I.O,I.O] true 1)).next=h.next+2:=rfl
 refine Y5 ?_;generalize((h.push (.cells (cellsOf (sv s)) true 1)).push (.cells [I.O,I.O,I.O,I.O,I.O,I.O] true 1))=H at*;have W:=L.wf hr.wf;have hL:=L.log.trans hr.log;unfold jV;by_cases he:s=s0
 ·rw[if_pos he];have u:cG 6 (cw 0 (bxL ⟨c0,c0⟩))=bxL ⟨c0,c0⟩:=rfl;refine Y4 ?_;refine aG (oR (b:=s0) (by exact rfl) (by exact rfl) j.len rfl) ?_;rw[decide_eq_true he];refine Y9 ?_;refine au ?_ (dW (own:=true) (s:=1) (l:=bxL ⟨c0,c0⟩) rfl ?_ u rfl rfl) rfl
  ·rw[Heap.aD (by show h.next<=h.next+1;omega)];exact hL
  ·exact YG
 ·rw[if_neg he];have r:=fK (h:=H) (base:=h.next) (by omega) (.cells [I.O,I.O,I.O,I.O,I.O,I.O] true 1) (.cells (bxL bx0) true 1);have J:=gY (h:=H) (base:=h.next) [I.O,I.O,I.O,I.O,I.O,I.O] (bxL bx0);refine Y4 ?_;refine aG (oR (b:=s0) (by exact rfl) (by exact rfl) j.len rfl) ?_;rw[decide_eq_false he];refine Y4 ?_;refine cI (E0:=[(1, .pointer (some ⟨h.next,0,none⟩)),(2, .pointer (some ⟨h.next+1,0,none⟩)),(4, .pointer (some ⟨H.next,0,none⟩))]) (P:=λn=>Ext H n∧n.next=H.next+1/\n.get H.next=some (.cells (bxL bx0) true 1)) ?_ ?_
  ·refine Y5 ?_;refine bH ?_;refine y1 ?_;exact⟨rfl,rfl,rfl,fK (by omega) _ _,rfl,gY _ _⟩
  rintro M ⟨r,n1,J⟩;have c:=L.trans r;have W1:=c.wf hr.wf;have ae:=c.log.trans hr.log;have ga:=(r.old _ (by omega)).trans U;have X:=(r.old _ (by omega)).trans V;have C:=Cr F.cp (h:={M with log:=[]}) (.of W1) j;clear U V;refine Y4 ?_;refine FW.al C (λv n m q=>q) ?_;rintro _ a t ⟨q,rfl,gq,q2,q3⟩;clear C;have q2:M.next<=q:=q2
  have f:=c.trans t;have Q:=f.wf hr.wf;have A:=f.log.trans hr.log;have n2:=t.next
  have y:=(t.old _ (by omega)).trans X;have K:=(t.old _ (by omega)).trans J;have B:Tab a:=hg.ext f h2;clear ga X J;refine Y2 ?_;refine An (lo:=H.next) (P:=PXo a.next H.next a (.loop [(2, .pointer (some ⟨h.next+1,0,none⟩)),(4, .pointer (some ⟨H.next,0,none⟩)),(15,fnC q)] [16] vV vX 0 .normal) (λd=>bxL (bxS d)) (cM s 512)) (S:=λ_=>False) rfl (by rfl) (by rw[F.cp.f265];rfl) (by omega) (by omega) A Q ?_ (λH p=>⟨_,_,_,_,p.loop⟩) (λH p=>p.elim) ?_ (λ_ _ _ _ _ _ _ p=>p.elim)
  ·have Y:Jj T H.next (a.next+1) a.next ceV (cM s 512) (PXo a.next H.next a (.loop [(2, .pointer (some ⟨h.next+1,0,none⟩)),(4, .pointer (some ⟨H.next,0,none⟩)),(15,fnC q)] [16] vV vX 0 .normal) (λd=>bxL (bxS d))) (λ_=>False):=by
    refine⟨λdone x Hh hx E hN i=> ?_,PXo.fu (by omega),λ_ _ h=>h,λ_ h=>h.elim⟩;refine FW.mono' (JK Z E (lo:=H.next) (N:=a.next+1) (S:=λ_=>False) (bl _) (by omega) (by omega) i.loop i.val) ?_;rintro r' H' ⟨r1,r2⟩;refine⟨r1,r2.imp (λ⟨e,g,o,_⟩=>⟨e,λz G k=>(o z (by omega) k).trans (i.old z G k),(o _ (by omega) (by omega)).trans i.loop,?_⟩) id⟩;rw[JJ];exact g
   exact zy F.cp (.of (Q.push _)) (q0:=q) (l:=a.next) (N:=a.next+1) (lo:=H.next) j (bl _) (by show H.next<=a.next+1;omega) (go _) Y ((z4 (by omega)).trans gq) (λd H' i=>(i.old 0 (by omega) (by omega)).trans B)
    ⟨λz G _=>z4 G,z3 _ _,(z4 (by omega)).trans K⟩
  intro h4 h5 k1 k2 k3 k4 k5 i;have D:=(k5 H.next (by omega)).trans i.val;have D2:=(k5 (h.next+1) (by omega)).trans ((i.old _ (by omega) (by omega)).trans y);generalize bxS (cM s 512)=b at*;have ck:cG 6 (cw 0 (bxL b))=bxL b:=rfl;have w:Nat.beq (cF (bxL b)) 6=true:=rfl;refine Y8 ?_;refine au ?_ (dW (own:=true) (s:=1) (l:=bxL b) rfl ?_ ck w rfl) rfl
  ·rw[Heap.aD (by show h.next<=h.next+1;omega)];exact k1
  ·exact YG
def iQ:Nat->Ce->Ce
 |0,c=>c
 |1,c=>⟨c.x,7-c.z,c.y⟩
 |2,c=>⟨c.x,7-c.y,7-c.z⟩
 |3,c=>⟨c.x,c.z,7-c.y⟩
 |4,c=>⟨c.z,c.y,7-c.x⟩
 |_,c=>⟨7-c.z,c.y,c.x⟩
def PN(c:Ce):Ce:=⟨7-c.y,c.x,c.z⟩
def Bw:Nat->Ce->Ce
 |0,c=>c
 |n+1,c=>PN (Bw n c)
def qi(t:Nat)(c:Ce):Ce:=Bw (t % 4) (iQ (t / 4) c)
structure InB (c:Ce):Prop where
 x:0<=c.x/\c.x<=7
 y:0<=c.y/\c.y<=7
 z:0<=c.z/\c.z<=7
theorem vC{c:Ce}:inG c=true↔InB c:=by
 unfold inG;rw[decide_eq_true_eq];exact⟨λh=>⟨h.1,h.2.1,h.2.2⟩,λh=>⟨h.x,h.y,h.z⟩⟩
theorem InB.VX{c:Ce}(h:InB c)(k:Nat):InB (iQ k c):=by
 obtain⟨a,b,d⟩:=h;unfold iQ;split<;>(constructor<;>(first|omega|(dsimp only;omega)))
theorem InB.rot{c:Ce}(h:InB c):∀n,InB (Bw n c)
 |0=>h
 |n+1=>by
  obtain⟨h1,h2,h3⟩:=h.rot n;unfold Bw PN;exact⟨by dsimp only;omega,h1,h3⟩
theorem InB.X2{c:Ce}(h:InB c)(t:Nat):InB (qi t c):=(h.VX _).rot _
theorem ia{a:Int}(h:0<=a/\a<=7):an .sub (.int .i64 7) (.int .i64 a)=some (.int .i64 (7-a)):=mQ (bO (by omega) (by omega))
theorem Si{a:Nat}:an .rem (.int .i64 a) (.int .i64 4)=some (.int .i64 ((a % 4:Nat):Int)):=by
 have e:(a:Int).tmod 4=((a % 4:Nat):Int):=by rw[Int.tmod_eq_emod_of_nonneg (by omega)];omega
 simp[an,arith,e]
theorem Sg{a:Nat}(h1:a<9223372036854775808):an .quo (.int .i64 a) (.int .i64 4)=some (.int .i64 ((a / 4:Nat):Int)):=by
 have e:fE .i64 ((a:Int).tdiv 4)=((a / 4:Nat):Int):=by
  rw[Int.tdiv_eq_ediv_of_nonneg (by omega),bO (by omega) (by omega)];omega
 have b:an .quo (.int .i64 a) (.int .i64 4)=some (.int .i64 (fE .i64 ((a:Int).tdiv 4))):=rfl;rw[b,e]
structure sG (T:Nat->Option aq):Prop where
 p:aF T
 f263:T 123=some f263
 f317:T 136=some f317
 f318:T 137=some f318
 f319:T 138=some f319
 f320:T 139=some f320
 f321:T 140=some f321
 f322:T 141=some f322
theorem VY(F:sG T)(hr:Rdy h)(v:Value){c:Ce}(j:InB c):Pu T 136 [v,ceV c] h (ceV (iQ 0 c)):=by
 refine .of F.p F.f317 hr rfl ?_;obtain⟨a,b,d⟩:=c;obtain⟨e,f,g⟩:=j;dsimp only at e f g;have mx:=ia e;have k:=ia f;have l:=ia g;have i:cG 3 (cw 0 (ceL (iQ 0 ⟨a,b,d⟩)))=ceL (iQ 0 ⟨a,b,d⟩):=rfl;refine Y9 ?_;refine au ?_ (dW (own:=true) (s:=1) rfl ?_ i rfl rfl) rfl
 ·rw[Heap.aD (by show h.next<=h.next+1;omega)];exact hr.log
 ·exact YG
theorem VZ(F:sG T)(hr:Rdy h)(v:Value){c:Ce}(j:InB c):Pu T 137 [v,ceV c] h (ceV (iQ 1 c)):=by
 refine .of F.p F.f318 hr rfl ?_;obtain⟨a,b,d⟩:=c;obtain⟨e,f,g⟩:=j;dsimp only at e f g;have mx:=ia e;have k:=ia f;have l:=ia g;have i:cG 3 (cw 0 (ceL (iQ 1 ⟨a,b,d⟩)))=ceL (iQ 1 ⟨a,b,d⟩):=rfl;refine Y16 ?_;refine au ?_ (dW (own:=true) (s:=1) rfl ?_ i rfl rfl) rfl
 ·rw[Heap.aD (by show h.next<=h.next+1;omega)];exact hr.log
 ·exact YG
theorem V0(F:sG T)(hr:Rdy h)(v:Value){c:Ce}(j:InB c):Pu T 138 [v,ceV c] h (ceV (iQ 2 c)):=by
 refine .of F.p F.f319 hr rfl ?_;obtain⟨a,b,d⟩:=c;obtain⟨e,f,g⟩:=j;dsimp only at e f g;have mx:=ia e;have k:=ia f;have l:=ia g;have i:cG 3 (cw 0 (ceL (iQ 2 ⟨a,b,d⟩)))=ceL (iQ 2 ⟨a,b,d⟩):=rfl;refine Y17 ?_;refine au ?_ (dW (own:=true) (s:=1) rfl ?_ i rfl rfl) rfl
 ·rw[Heap.aD (by show h.next<=h.next+1;omega)];exact hr.log
 ·exact YG
theorem V1(F:sG T)(hr:Rdy h)(v:Value){c:Ce}(j:InB c):Pu T 139 [v,ceV c] h (ceV (iQ 3 c)):=by
 refine .of F.p F.f320 hr rfl ?_;obtain⟨a,b,d⟩:=c;obtain⟨e,f,g⟩:=j;dsimp only at e f g;have mx:=ia e;have k:=ia f;have l:=ia g;have i:cG 3 (cw 0 (ceL (iQ 3 ⟨a,b,d⟩)))=ceL (iQ 3 ⟨a,b,d⟩):=rfl;refine Y16 ?_;refine au ?_ (dW (own:=true) (s:=1) rfl ?_ i rfl rfl) rfl
 ·rw[Heap.aD (by show h.next<=h.next+1;omega)];exact hr.log
 ·exact YG
theorem V3(F:sG T)(hr:Rdy h)(v:Value){c:Ce}(j:InB c):Pu T 140 [v,ceV c] h (ceV (iQ 4 c)):=by
 refine .of F.p F.f321 hr rfl ?_;obtain⟨a,b,d⟩:=c;obtain⟨e,f,g⟩:=j;dsimp only at e f g;have mx:=ia e;have k:=ia f;have l:=ia g;have i:cG 3 (cw 0 (ceL (iQ 4 ⟨a,b,d⟩)))=ceL (iQ 4 ⟨a,b,d⟩):=rfl;refine Y16 ?_;refine au ?_ (dW (own:=true) (s:=1) rfl ?_ i rfl rfl) rfl
 ·rw[Heap.aD (by show h.next<=h.next+1;omega)];exact hr.log
 ·exact YG
theorem V4(F:sG T)(hr:Rdy h)(v:Value){c:Ce}(j:InB c):Pu T 141 [v,ceV c] h (ceV (iQ 5 c)):=by
 refine .of F.p F.f322 hr rfl ?_;obtain⟨a,b,d⟩:=c;obtain⟨e,f,g⟩:=j;dsimp only at e f g;have mx:=ia e;have k:=ia f;have l:=ia g;have i:cG 3 (cw 0 (ceL (iQ 5 ⟨a,b,d⟩)))=ceL (iQ 5 ⟨a,b,d⟩):=rfl;refine Y16 ?_;refine au ?_ (dW (own:=true) (s:=1) rfl ?_ i rfl rfl) rfl
 ·rw[Heap.aD (by show h.next<=h.next+1;omega)];exact hr.log
 ·exact YG
theorem V5(F:sG T)(hr:Rdy h)(v:Value){c:Ce}(a:InB c):∀k,k<6->Pu T (136+k) [v,ceV c] h (ceV (iQ k c))
 |0,_=>VY F hr v a
 |1,_=>VZ F hr v a
 |2,_=>V0 F hr v a
 |3,_=>V1 F hr v a
 |4,_=>V3 F hr v a
 |5,_=>V4 F hr v a
 |k+6,h=>by omega
def uY(k:Nat):Value:= .func (.func (136+k)) #[.int .i64 0] #[]
def MH:List Value:=[uY 0,uY 1,uY 2,uY 3,uY 4,uY 5]
theorem MI:∀k,k<6->bK MH (0+k*1)=some (uY k)
 |0,_=>rfl
 |1,_=>rfl
 |2,_=>rfl
 |3,_=>rfl
 |4,_=>rfl
 |5,_=>rfl
 |k+6,h=>by omega
theorem IQ(F:sG T)(hr:Rdy h){c:Ce}(B:InB c){t:Nat}(ht:t<24):Pu T 123 [ceV c, .int .i64 (t:Nat)] h (ceV (qi t c)):=by
 refine .of F.p F.f263 hr rfl ?_;have q:Ext h ((h.push (.cells (cellsOf (ceV c)) true 1)).push (.cells [I.O,I.O,I.O] true 1)):=((Ext.refl h).push _).push _;have z:((h.push (.cells (cellsOf (ceV c)) true 1)).push (.cells [I.O,I.O,I.O] true 1)).get h.next=some (.cells (ceL c) true 1):=(z4 (go _)).trans (z3 h _)
 have A:((h.push (.cells (cellsOf (ceV c)) true 1)).push (.cells [I.O,I.O,I.O] true 1)).get (h.next+1)=some (.cells [I.O,I.O,I.O] true 1):=z3 _ _;have n0:((h.push (.cells (cellsOf (ceV c)) true 1)).push (.cells [I.O,I.O,I.O] true 1)).next=h.next+2:=rfl
 refine Y4 ?_;generalize((h.push (.cells (cellsOf (ceV c)) true 1)).push (.cells [I.O,I.O,I.O] true 1))=H at*;have W:=q.wf hr.wf;have hL:=q.log.trans hr.log;refine Y3 ?_;refine cI (E0:=[(1, .int .i64 (t:Nat)),(2, .pointer (some ⟨h.next,0,none⟩)),(4, .pointer (some ⟨h.next+1,0,none⟩)),(6, .pointer (some ⟨H.next,0,none⟩))]) (P:=λf=>Ext H f∧f.next=H.next+1/\f.get H.next=some (.cells MH true 1)) ?_ ?_
 ·refine Y16 ?_;refine bH ?_;refine y1 ?_;exact⟨rfl,rfl,rfl,fK (by omega) _ _,rfl,gY _ _⟩
 rintro v ⟨u,n1,q1⟩;have a:=q.trans u;have G:=a.wf hr.wf;have U:=a.log.trans hr.log;have M:=(u.old _ (by omega)).trans z;have N:=(u.old _ (by omega)).trans A;have D:t / 4<6:=by omega
 have m1:an .quo (.int .i64 (t:Nat)) (.int .i64 4)=some (.int .i64 ((t / 4:Nat):Int)):=Sg (by omega);have m2:an .rem (.int .i64 (t:Nat)) (.int .i64 4)=some (.int .i64 ((t % 4:Nat):Int)):=Si;have L:=MI (t / 4) D;have C:=V5 F (h:={v with log:=[]}) (.of G) (.int .i64 0) B (t / 4) D;have l:=B.VX (t / 4);have X:t % 4<4:=by omega
 have ck:cG 3 (cw 0 (ceL c))=ceL c:=rfl;have K:Nat.beq (cF (ceL c)) 3=true:=rfl;unfold qi;generalize hq:iQ (t / 4) c=d at*;generalize t / 4=k at*;generalize t % 4=r at*;unfold uY at L;clear z A;refine Y8 ?_;refine FW.puD C (by(repeat apply aC rfl);exact aY) ?_;clear C;refine yG rfl rfl rfl (by exact rfl) (by exact rfl) (by exact rfl) (by assumption) (by exact rfl) (by exact rfl) (by omega) (by omega) (by exact aY) ?_;refine Y10 ?_
 refine cT (λm e y f=>∃j:Nat,j<=r/\r-j=m/\e=[(2, .pointer (some ⟨h.next,0,none⟩)),(4, .pointer (some ⟨h.next+1,0,none⟩)),(27, .int .i64 (r:Nat)),(28, .int .i64 (j:Nat))]/\y=[]/\Ext h f∧h.next+2<=f.next/\f.get h.next=some (.cells (ceL (Bw j d)) true 1)/\f.get (h.next+1)=some (.cells [I.O,I.O,I.O] true 1))
  ⟨0,md _,rfl,rfl,rfl,⟨a.next,(Heap.aD (by omega)).trans a.log,λb l=>(z5 (by omega)).trans (a.old b l),λw=>(a.wf w).as (AS.wr h.next _ _ _)⟩,by show h.next+2<=v.next;omega,by rw[z6,M];rfl,(z5 (by omega)).trans N⟩ ?_
 rintro m e y f ⟨j,hj,rfl,rfl,rfl,x,V,Q,S⟩;have o:=l.rot j;by_cases hlt:j<r
 ·have g:Bw (j+1) d=PN (Bw j d):=rfl;generalize Bw j d=b at*;obtain⟨Y,J,Z⟩:=b;obtain⟨_,E,_⟩:=o;dsimp only at E;have my:=ia E;unfold PN at g;dsimp only at g;refine Y19 ?_;refine bH ?_;refine Y7 ?_;refine⟨r-(j+1),by omega,j+1,by omega,rfl,rfl,rfl,⟨x.next,(Heap.aD (by omega)).trans x.log,λb l=>(z5 (by omega)).trans (x.old b l),λw=>(x.wf w).as (AS.wr h.next _ _ _)⟩,V,?_,(z5 (by omega)).trans S⟩;rw[z6,Q,g];rfl
 ·obtain rfl:j=r:=by omega
  generalize Bw j d=b at*;have n:cG 3 (cw 0 (ceL b))=ceL b:=rfl;have i:Nat.beq (cF (ceL b)) 3=true:=rfl;refine Y15 ?_;refine au ?_ (dW (own:=true) (s:=1) rfl ?_ n i rfl) rfl
  ·rw[Heap.aD (by show h.next<=h.next+1;omega)];exact x.log.trans hr.log
  ·exact YG
end Go.A.Pk
end
section
namespace Go.A.Pk
variable {T:Nat->Option aq}
def vk(o:List Nat)(c:Ce):List Nat:=o.set c.z.toNat (Nat.lor (o.getD c.z.toNat 0) (2 ^ (8*c.y.toNat+c.x.toNat)))
variable{z:Nat}
theorem Gu(o:List Nat){i:Nat}(hi:i<64):vk o (jG z i)=o.set z (Nat.lor (o.getD z 0) (2 ^ i)):=by
 unfold vk jG;dsimp only;rw[show((z:Nat):Int).toNat=z by omega,show 8*((i / 8:Nat):Int).toNat+((i % 8:Nat):Int).toNat=i by omega]
variable{o:List Nat}
theorem IsS.vk(h:IsS o){c:Ce}(b:inG c=true):IsS (Pk.vk o c):=by
 obtain⟨z,i,e,a,rfl⟩:=pL b;rw[Gu o a];refine⟨by rw[lp];exact h.len,λx d=> ?_⟩;rcases wn d with h1|h1
 ·exact h.lt x h1
 ·rw[h1];exact KU (h.mO z) (xz a)
def AZ(f:Ce->Ce)(l:List Ce):List Nat:=l.foldl (λo c=>vk o (f c)) s0
def y7(f:Ce->Ce)(s:List Nat):List Nat:=AZ f (cM s 512)
theorem zM(f:Ce->Ce)(l:List Ce)(c:Ce):AZ f (l++[c])=vk (AZ f l) (f c):=by unfold AZ;rw[yr];rfl
theorem ON{f:Ce->Ce}:∀{l:List Ce},(∀c∈l,inG (f c)=true)->IsS (AZ f l):=by
 intro l;have:∀(l:List Ce) (o:List Nat),IsS o->(∀c∈l,inG (f c)=true)->IsS (l.foldl (λo c=>vk o (f c)) o):=by
  intro l;induction l with
  |nil=>intro o b _;exact b
  |cons c l ih=>intro o b a;exact ih _ (b.vk (a c b6)) λx d=>a x (bz _ d)
 exact λa=>this l s0 Gy a
theorem Fy{v:Nat}(a:z<o.length):cW (us o) (0+z*1) (cellsOf (.int .u64 (v:Nat)))=us (o.set z v):=by
 show cW (us o) (0+z*1) [.int .u64 (v:Nat)]=_;rw[hX,rt,eY (by rw[aK];simp;omega)];unfold us;rw[List.map_set,List.set_eq_take_append_cons_drop,if_pos (by simpa using a)];simp
section
open I
def tP:aN:=I.R [g 7 (.new [O,O,O]),S 3 7 11] [3,4,5,6,7]
def tQ:aN:=(.block 1 (Q (I.R [L 12 3,N 13 3 7,g 14 (.call (t 12) [(t 13)]),g 8 (.new [O,O,O]),S 3 8 14] [4,5,6,8])
 (Q (.seq (I.R [N 15 3 8,g 16 (.call (.func 79) [(t 15)]),g 17 (.un .not (t 16))] [4,5,6,8,17])
 (.cond (t 17) (Q (I.R [g 18 (.build (aR 8 (.int .u64 0)) []),S 8 4 18,⟨none, .store 1 (t 5) (.const (.bool false)),none⟩] [])
 .ret) .skip))
 (.draw [A 19 2 8,L 20 19,g 21 (.dB 8 1 (t 6) (t 20)),L 22 21,N 23 3 8,g 24 (.call (.func 80) [(t 23)]),B 25 .or 22 24,g 26 (.dB 8 1 (t 6) (t 20)),S 1 26 25] [0,1,2,3,4,5,6,7,8] [0,1,3,7,0,16,63,127,255] []))))
end
structure BV (T:Nat->Option aq):Prop where
 cp:FH T
 tu:sG T
 f126:T 79=some f126
 f127:T 80=some f127
 f211:T 107=some f211
 f215:T 104=some f215
 f261:T 121=some f261
 f262:T 122=some f262
variable{gf:Nat}{cap:Value}
theorem HI(F:BV T){H:Heap}(hr:Rdy H){q l lo N b3 C D:Nat}{Z:Value}{o:List Nat}(ho:IsS o){c d:Ce}(hd:inG d=true)(K:lo<=q)(ba:q<l)(J:l<N)(aE:b3<q)
 (gl:H.get l=some (.loop [(3, .pointer (some ⟨b3,0,none⟩)),(4, .pointer (some ⟨C,0,none⟩)),(5, .pointer (some ⟨D,0,none⟩)),(6, .pointer (some ⟨q,0,none⟩)),(10,Z)] [11] tP tQ 0 .normal))
 (m:H.get b3=some (.cells [.func (.func gf) #[] #[cap]] true 1))
 (w:∀f:Heap,WF f→(∀z,z<b3->f.get z=H.get z)->Pu T gf [ceV c,cap] {f with log:=[]} (ceV d))
 (n:H.get q=some (.cells (us o) true 1)){S:Heap->Prop}:
 FW T (.yield l) [ceV c] H λr f=>(∀z∈f.log,lo<=z/\z<N)/\(r= .ret (.bool true)/\(f.get q=some (.cells (us (vk o d)) true 1)/\(∀z,z<H.next->z≠q->f.get z=H.get z)/\H.next<=f.next)∨r= .ret (.bool false)/\l∈f.log/\S f):=by
 have L:=F.cp.p;have no:q≠l:=by omega
 have ko:=hr.wf.bP n;have kl:=hr.wf.bP gl;have k3:=hr.wf.bP m;refine FW.NL L (R:=λf=>f.get q=some (.cells (us (vk o d)) true 1)/\(∀z,z<H.next->z≠q->f.get z=H.get z)/\H.next<=f.next) gl rfl kl ⟨by omega,J⟩ ?_;unfold tP;refine Y3 ?_;refine bH ?_;refine y1 ?_;refine⟨rfl,YG,?_⟩;unfold tQ;refine lF ?_;refine WE.vh ?_;intro j e;have y:∀z,z<H.next->z≠l->H.get z=j.get z:=λz g u=>by rw[e];symm;simp(disch:=first|omega|(simp only[z1,z2];omega))only[z5,z4]
 have Q:j.get H.next=some (.cells (ceL c) true 1):=by rw[e];(simp(disch:=first|omega|(simp only[z1,z2];omega))only[z3,z4,z5,z6,z7,z1,z2,gl,m,n];exact rfl)
 have O:j.get l=some (.loop [(3, .pointer (some ⟨b3,0,none⟩)),(4, .pointer (some ⟨C,0,none⟩)),(5, .pointer (some ⟨D,0,none⟩)),(6, .pointer (some ⟨q,0,none⟩)),(10,Z)] [11] tP tQ 1 .normal):=by rw[e];(simp(disch:=first|omega|(simp only[z1,z2];omega))only[z3,z4,z5,z6,z7,z1,z2,gl,m,n,Q];exact rfl)
 have A5:j.next=H.next+1:=by rw[e];rfl
 have A6:j.log=[]:=by rw[e];simp(disch:=first|omega|(simp only[z1,z2];omega))only[Heap.aD,Heap.wO];exact hr.log
 have U:WF j:=by rw[e];exact(((hr.wf.push _).as (AS.wr _ _ _ _)).as (AS.wr _ _ _ _))
 clear e;have V:=(y q ko no).symm.trans n;have B3:=(y b3 k3 (by omega)).symm.trans m;have A:=w j U λz g=>(y z (by omega) (by omega)).symm;have ck:cG 3 (cw 0 (ceL c))=ceL c:=rfl;have aw:Nat.beq (cF (ceL c)) 3=true:=rfl;clear n w;refine cI (E0:=[(4, .pointer (some ⟨C,0,none⟩)),(5, .pointer (some ⟨D,0,none⟩)),(6, .pointer (some ⟨q,0,none⟩)),(8, .pointer (some ⟨j.next,0,none⟩))]) (P:=λE=>Ext j E∧E.next=j.next+1/\E.get j.next=some (.cells (ceL d) true 1)) ?_ ?_
 ·refine Y4 ?_;refine FW.pu A ?_;clear A;refine Y2 ?_;refine bH ?_;refine y1 ?_;exact⟨rfl,rfl,rfl,fK (by omega) _ _,rfl,gY _ _⟩
 rintro hB ⟨x,nB,gB⟩;clear A Q;have X:=x.wf U;have LB:=x.log.trans A6;have k:=(x.old _ (by omega)).trans V;have ae:=(x.old _ (by omega)).trans O;have B:=HC L F.f126 F.f215 (h:={hB with log:=[]}) (.of X) d;rw[hd]at B;obtain⟨z,i,g,I,rfl⟩:=pL hd;have W:=RH L F.f127 (h:={hB with log:=[]}) (.of X) (z:=z) I;have ar:cG 3 (cw 0 (ceL (jG z i)))=ceL (jG z i):=rfl;have Y:Nat.beq (cF (ceL (jG z i))) 3=true:=rfl;have lz:bK (ceL (jG z i)) (0+2)=some (.int .i64 ((z:Nat):Int)):=rfl;have e1:=nw (lQ (s:=o) (i:=z) (by rw[ho.len];exact g));have m1:=Vy (a:=o.getD z 0) (b:=2 ^ i) (ho.mO z) (xz I);have kw:=Fy (o:=o) (z:=z) (v:=Nat.lor (o.getD z 0) (2 ^ i)) (by rw[ho.len];exact g);rw[←Gu o I]at kw;have kc:(Nat.beq (cF (cellsOf (.int .u64 ((Nat.lor (o.getD z 0) (2 ^ i):Nat):Int)))) 1&&Nat.ble (0+z*1+1) (cF (us o))&&eC (cellsOf (.int .u64 ((Nat.lor (o.getD z 0) (2 ^ i):Nat):Int))))=true:=by
  rw[bX (us o),aK,ho.len,gL (by omega)];rfl
 clear V O B3 m;refine Y4 ?_;refine FW.pu B ?_;clear B;refine Y12 ?_;refine FW.puD W (by apply aC rfl;apply ah rfl (af rfl (bJ (by exact rfl) (by assumption) (by assumption)) (by exact bY _ _)) rfl;apply ah rfl (af rfl (sK (by exact rfl) (by exact rfl) (by omega)) (by exact aV _)) rfl;apply ah rfl (af rfl (bJ (by exact rfl) (by assumption) (by exact rfl)) (by exact bY _ _)) rfl;apply ah rfl (af rfl (cN (by exact rfl)) (by exact aV _)) rfl;exact aY) ?_;clear W;refine Y2 ?_;refine iC (vs:=us o) (ws:=us (vk o (jG z i))) rfl rfl rfl (by exact rfl) (by exact rfl) (by exact rfl) k kc kw (by omega) (by(repeat apply aC rfl);exact aY) ?_;refine Y3 ?_;refine⟨⟨_,YG,rfl⟩,λz g=> ?_, .inl ⟨rfl,λh5 hn t G=> ?_⟩⟩
 ·have M:z=q:=by
   rcases dy g with h|g
   ·exact h
   rw[LB]at g;cases g
  subst M;exact⟨K,by omega⟩
 ·refine⟨(t q ko no).trans (Heap.aI k),λz g u=> ?_,hn⟩;by_cases hl:z=l
  ·subst hl;rw[gl];exact G
  ·refine(t z g hl).trans ?_;rw[z5 u,x.old z (by omega)];exact(y z g hl).symm
variable{s:List Nat}
theorem tT{n:Nat}{c:Ce}(h:c∈cM s n):inG c=true:=by
 have:=HL h;by_cases hc:inG c=true
 ·exact hc
 ·rw[mH hc]at this;cases this
variable{f:Ce->Ce}
theorem Gg(a:∀c,inG c=true->inG (f c)=true):IsS (y7 f s):=ON λc b=>a c (tT b)
variable{h:Heap}
theorem HJ(F:BV T)(hr:Rdy h)(hg:Tab h)(h2:0<h.next)(Q:IsS s)(E:∀c,inG c=true->inG (f c)=true)
 (aw:∀t:Heap,WF t→(∀z,z<h.next->t.get z=h.get z)->∀c,inG c=true->Pu T gf [ceV c,cap] {t with log:=[]} (ceV (f c))):
 Pu T 121 [sv s, .func (.func gf) #[] #[cap]] h (.tuple #[sv (y7 f s), .bool true]):=by
 have hp:=F.cp.p;have I:=Gg (s:=s) E;refine .of hp F.f261 hr (by
  have h1:flat (sv (y7 f s))=true:=jS _;show jf [sv (y7 f s), .bool true]=true;simp only[jf,h1,cond_true];rfl) ?_
 have k8:=bR Q.len;have k9:=cS Q.len;have x0:Ext h (((((h.push (.cells (cellsOf (sv s)) true 1)).push (.cells (cellsOf (.func (.func gf) #[] #[cap])) true 1)).push (.cells (aR 8 (.int .u64 0)) true 1)).push (.cells [.bool false] true 1)).push (.cells (aR 8 (.int .u64 0)) true 1)):=(((((Ext.refl h).push _).push _).push _).push _).push _;have gA:(((((h.push (.cells (cellsOf (sv s)) true 1)).push (.cells (cellsOf (.func (.func gf) #[] #[cap])) true 1)).push (.cells (aR 8 (.int .u64 0)) true 1)).push (.cells [.bool false] true 1)).push (.cells (aR 8 (.int .u64 0)) true 1)).get h.next=some (.cells (us s) true 1):=YG
 have gB:(((((h.push (.cells (cellsOf (sv s)) true 1)).push (.cells (cellsOf (.func (.func gf) #[] #[cap])) true 1)).push (.cells (aR 8 (.int .u64 0)) true 1)).push (.cells [.bool false] true 1)).push (.cells (aR 8 (.int .u64 0)) true 1)).get (h.next+1)=some (.cells [.func (.func gf) #[] #[cap]] true 1):=YG;have gC:(((((h.push (.cells (cellsOf (sv s)) true 1)).push (.cells (cellsOf (.func (.func gf) #[] #[cap])) true 1)).push (.cells (aR 8 (.int .u64 0)) true 1)).push (.cells [.bool false] true 1)).push (.cells (aR 8 (.int .u64 0)) true 1)).get (h.next+2)=some (.cells (us s0) true 1):=YG;have gD:(((((h.push (.cells (cellsOf (sv s)) true 1)).push (.cells (cellsOf (.func (.func gf) #[] #[cap])) true 1)).push (.cells (aR 8 (.int .u64 0)) true 1)).push (.cells [.bool false] true 1)).push (.cells (aR 8 (.int .u64 0)) true 1)).get (h.next+3)=some (.cells [.bool false] true 1):=YG;have gE:(((((h.push (.cells (cellsOf (sv s)) true 1)).push (.cells (cellsOf (.func (.func gf) #[] #[cap])) true 1)).push (.cells (aR 8 (.int .u64 0)) true 1)).push (.cells [.bool false] true 1)).push (.cells (aR 8 (.int .u64 0)) true 1)).get (h.next+4)=some (.cells (us s0) true 1):=YG;have n0:(((((h.push (.cells (cellsOf (sv s)) true 1)).push (.cells (cellsOf (.func (.func gf) #[] #[cap])) true 1)).push (.cells (aR 8 (.int .u64 0)) true 1)).push (.cells [.bool false] true 1)).push (.cells (aR 8 (.int .u64 0)) true 1)).next=h.next+5:=rfl
 refine Y9 ?_;generalize(((((h.push (.cells (cellsOf (sv s)) true 1)).push (.cells (cellsOf (.func (.func gf) #[] #[cap])) true 1)).push (.cells (aR 8 (.int .u64 0)) true 1)).push (.cells [.bool false] true 1)).push (.cells (aR 8 (.int .u64 0)) true 1))=H at*;have W:=x0.wf hr.wf;have hL:=x0.log.trans hr.log;have C:=Cr F.cp (h:={H with log:=[]}) (.of W) Q;refine Y4 ?_;refine FW.al C (λv h' m q=>q) ?_;rintro _ k K ⟨q,rfl,O,q2,q3⟩;clear C;have q2:H.next<=q:=q2
 have i:=x0.trans K;have W1:=i.wf hr.wf;have Z:=i.log.trans hr.log;have n1:=K.next
 have u:=(K.old _ (by omega)).trans gB;have y:=(K.old _ (by omega)).trans gC;have A:=(K.old _ (by omega)).trans gD;have B:=(K.old _ (by omega)).trans gE;have ae:Tab k:=hg.ext i h2;clear gA gB gC gD gE;refine Y2 ?_;refine An (lo:=h.next+4) (P:=PXo k.next (h.next+4) k (.loop [(3, .pointer (some ⟨h.next+1,0,none⟩)),(4, .pointer (some ⟨h.next+2,0,none⟩)),(5, .pointer (some ⟨h.next+3,0,none⟩)),(6, .pointer (some ⟨h.next+4,0,none⟩)),(10,fnC q)] [11] tP tQ 0 .normal) (λd=>us (AZ f d)) (cM s 512)) (S:=λ_=>False) rfl (by rfl) (by rw[F.cp.f265];rfl) (by omega) (by omega) Z W1 ?_ (λH p=>⟨_,_,_,_,p.loop⟩) (λH p=>p.elim) ?_ (λ_ _ _ _ _ _ _ p=>p.elim)
 ·have Y:Jj T (h.next+4) (k.next+1) k.next ceV (cM s 512) (λd t=>PXo k.next (h.next+4) k (.loop [(3, .pointer (some ⟨h.next+1,0,none⟩)),(4, .pointer (some ⟨h.next+2,0,none⟩)),(5, .pointer (some ⟨h.next+3,0,none⟩)),(6, .pointer (some ⟨h.next+4,0,none⟩)),(10,fnC q)] [11] tP tQ 0 .normal) (λd=>us (AZ f d)) d t∧IsS (AZ f d)) (λ_=>False):=by
   refine⟨λdone x Hh hx ar hN j=> ?_,λdone Ha Hb p n e=>⟨PXo.fu (by omega) done Ha Hb p.1 n e,p.2⟩,λ_ _ h=>h,λ_ h=>h.elim⟩;obtain⟨j,hd⟩:=j;have J:=tT hx
   refine FW.mono' (HI F ar (lo:=h.next+4) (N:=k.next+1) (S:=λ_=>False) hd (d:=f x) (E x J) (bl _) (by omega) (by omega) (by omega) j.loop ((j.old _ (by omega) (by omega)).trans u)
    (λt w e=>aw t w (λz M=>(e z (by omega)).trans ((j.old z (by omega) (by omega)).trans (i.old z M))) x J) j.val) ?_
   rintro r' t ⟨r1,r2⟩;refine⟨r1,r2.imp (λ⟨e,g,o,_⟩=>⟨e,⟨λz M L=>(o z (by omega) L).trans (j.old z M L),(o _ (by omega) (by omega)).trans j.loop,?_⟩,?_⟩) id⟩
   ·rw[zM];exact g
   ·rw[zM];exact hd.vk (E x J)
  have G:=zy F.cp (.of (W1.push (.loop [(3, .pointer (some ⟨h.next+1,0,none⟩)),(4, .pointer (some ⟨h.next+2,0,none⟩)),(5, .pointer (some ⟨h.next+3,0,none⟩)),(6, .pointer (some ⟨h.next+4,0,none⟩)),(10,fnC q)] [11] tP tQ 0 .normal))) (q0:=q) (l:=k.next) (N:=k.next+1) (lo:=h.next+4) Q (bl _) (by show h.next+4<=k.next+1;omega) (go _) Y ((z4 (by omega)).trans O) (λd t j=>(j.1.old 0 (by omega) (by omega)).trans ae)
   ⟨⟨λz M _=>z4 M,z3 _ _,(z4 (by omega)).trans B⟩,Gy⟩
  exact CW.mono G λr h' ⟨a,v,b,c⟩=>⟨a,v,b,c.imp (λp=>p.1) id⟩
 intro h4 h5 k1 k2 k3 k4 k5 j;have D:=(k5 (h.next+4) (by omega)).trans j.val;have U:=(k5 (h.next+2) (by omega)).trans ((j.old _ (by omega) (by omega)).trans y);have V:=(k5 (h.next+3) (by omega)).trans ((j.old _ (by omega) (by omega)).trans A);unfold y7 at*;generalize AZ f (cM s 512)=z at*;have ck:=cS I.len;have X:=bR I.len;have be:=dQ z;have bi:(us z).length=8:=by rw[aK,I.len]
 have ba:=dQ s0;have aE:(us s0).length=8:=rfl;refine Y4 ?_;refine aG (dg (by exact rfl) (by exact rfl) (by assumption) (by assumption) (by assumption) (by exact dQ _)) ?_;refine aG (iV (by exact rfl) (by exact rfl) (by first|(simp(disch:=first|omega|(simp only[z1,z2];omega))only[z3,z4,z5,z6,z7,z1,z2,O,u,y,A,B,U,V,D];exact rfl)|fail) (by exact rfl) (by exact rfl)) ?_;refine y3 ?_;refine yH ?_;refine au ?_ (dW (own:=true) (s:=1) (l:=us z) rfl ?_ ck X (p9 (own:=true) (s:=1) (ws:=[.bool true]) (v:= .bool true) rfl ?_ rfl rfl)) rfl
 ·rw[Heap.aD (by show h.next<=h.next+3;omega),Heap.aD (by show h.next<=h.next+2;omega)];exact k1
 ·simp(disch:=first|omega|(simp only[z1,z2];omega))only[z3,z4,z5,z6,z7,z1,z2,O,u,y,A,B,U,V,D]
 ·simp(disch:=first|omega|(simp only[z1,z2];omega))only[z3,z4,z5,z6,z7,z1,z2,O,u,y,A,B,U,V,D];exact rfl
theorem P0(F:BV T)(hr:Rdy h){a t:Nat}(f:t<24)(g:h.get a=some (.cells [.int .i64 (t:Nat)] true 1)){c:Ce}(e:inG c=true):Pu T 122 [ceV c, .pointer (some ⟨a,0,none⟩)] h (ceV (qi t c)):=by
 refine .of F.cp.p F.f262 hr rfl ?_;have i:=hr.wf.bP g;have W:WF ((h.push (.cells (cellsOf (ceV c)) true 1)).push (.cells [I.O,I.O,I.O] true 1)):=(hr.wf.push _).push _;have C:=IQ F.tu (.of W) (vC.1 e) f;have b:cG 3 (cw 0 (ceL (qi t c)))=ceL (qi t c):=rfl;generalize qi t c=d at*;refine Y8 ?_;refine FW.pu C ?_;refine Y3 ?_;refine au ?_ (dW (own:=true) (s:=1) rfl ?_ b rfl rfl) rfl
 ·rw[Heap.aD (by show h.next<=h.next+1;omega)];exact hr.log
 ·exact YG
def jR(s:List Nat)(t:Nat):List Nat:=y7 (qi t) s
theorem GL{t:Nat}(c:Ce)(h:inG c=true):inG (qi t c)=true:=vC.2 ((vC.1 h).X2 t)
theorem yd(s:List Nat)(t:Nat):IsS (jR s t):=Gg GL
theorem P3(F:BV T)(hr:Rdy h)(v:Tab h)(q:0<h.next)(d:IsS s){t:Nat}(x:t<24):Pu T 107 [sv s, .int .i64 (t:Nat)] h (sv (jR s t)):=by
 refine .of F.cp.p F.f211 hr (jS _) ?_;have D:=bR d.len;have E:=cS d.len;have g:Ext h (((h.push (.cells (cellsOf (sv s)) true 1)).push (.cells (cellsOf (Value.int .i64 (t:Nat))) true 1)).push (.cells (aR 8 (.int .u64 0)) true 1)):=(((Ext.refl h).push _).push _).push _;have A:(((h.push (.cells (cellsOf (sv s)) true 1)).push (.cells (cellsOf (Value.int .i64 (t:Nat))) true 1)).push (.cells (aR 8 (.int .u64 0)) true 1)).get h.next=some (.cells (us s) true 1):=YG
 have o:(((h.push (.cells (cellsOf (sv s)) true 1)).push (.cells (cellsOf (Value.int .i64 (t:Nat))) true 1)).push (.cells (aR 8 (.int .u64 0)) true 1)).get (h.next+1)=some (.cells [.int .i64 (t:Nat)] true 1):=YG;have B:(((h.push (.cells (cellsOf (sv s)) true 1)).push (.cells (cellsOf (Value.int .i64 (t:Nat))) true 1)).push (.cells (aR 8 (.int .u64 0)) true 1)).get (h.next+2)=some (.cells (us s0) true 1):=YG;have G:(((h.push (.cells (cellsOf (sv s)) true 1)).push (.cells (cellsOf (Value.int .i64 (t:Nat))) true 1)).push (.cells (aR 8 (.int .u64 0)) true 1)).next=h.next+3:=rfl
 refine Y5 ?_;generalize(((h.push (.cells (cellsOf (sv s)) true 1)).push (.cells (cellsOf (Value.int .i64 (t:Nat))) true 1)).push (.cells (aR 8 (.int .u64 0)) true 1))=H at*;have W:=g.wf hr.wf;have r:=g.log.trans hr.log
 have C:=HJ F (h:={H with log:=[]}) (.of W) (show Tab H from v.ext g q) (by show 0<H.next;omega) d (gf:=122) (cap:= .pointer (some ⟨h.next+1,0,none⟩)) (f:=qi t) GL
  (λy w e c u=>P0 F (.of w) x ((e (h.next+1) (by show h.next+1<H.next;omega)).trans o) u)
 have a:=yd s t;unfold jR at*;generalize y7 (qi t) s=z at*;have j:=cS a.len;have b:=bR a.len;have m:=dQ z;have n:(us z).length=8:=by rw[aK,a.len]
 have k:=dQ s0;have i:(us s0).length=8:=rfl;refine Y4 ?_;refine FW.pu C ?_;clear C;refine Y4 ?_;refine aG (dg (by exact rfl) (by exact rfl) YG (by assumption) (by assumption) (by exact dQ _)) ?_;refine Y3 ?_;refine aG (di (by exact rfl) YG (by assumption) (by assumption)) ?_;refine aG (dg (by exact rfl) (by exact rfl) YG (by assumption) (by assumption) (by exact dQ _)) ?_;refine Y2 ?_;refine au ?_ (dW (own:=true) (s:=1) (l:=us z) rfl ?_ j b rfl) rfl
 ·rw[Heap.aD (by show h.next<=h.next+2;omega),Heap.aD (by first|omega|(show h.next<=H.next;omega))];exact r
 ·exact YG
def shP(p:Nat)(k:Int):Nat:=if 0<=k then Nat.mod (Nat.shiftLeft p k.toNat) 18446744073709551616 else Nat.shiftRight p (-k).toNat
variable{p:Nat}
theorem Tj{k:Int}(a:p<U64):shP p k<U64:=by
 unfold shP;split
 ·exact Nat.mod_lt _ (by decide)
 ·exact sh (Nat.shiftRight_le _ _) a
def mP(s:List Nat)(a:Nat)(z k:Int):Nat->List Nat
 |0=>s0
 |n+1=>(mP s a z k n).set (((a+n:Nat):Int)+z).toNat (shP (s.getD (a+n) 0) k)
theorem tc{s:List Nat}(b:IsS s)(a:Nat)(z k:Int):∀n,IsS (mP s a z k n)
 |0=>Gy
 |n+1=>by
  have ih:=tc b a z k n;refine⟨by unfold mP;rw[lp];exact ih.len,λx c=> ?_⟩;unfold mP at c;rcases wn c with h|h
  ·exact ih.lt x h
  ·rw[h];exact Tj (b.mO _)
def pO(s:List Nat)(b:Bx)(x y z:Int):List Nat:=mP s b.lo.z.toNat z (8*y+x) (b.hi.z-b.lo.z+1).toNat
theorem Vz{n:Nat}(c:n<64):an .shl (.int .u64 (p:Nat)) (.int .i64 (n:Nat))=some (.int .u64 ((Nat.mod (Nat.shiftLeft p n) 18446744073709551616:Nat):Int)):=by
 have a:((n:Nat):Int)=Int.ofNat n:=rfl;have b:((p:Nat):Int)=Int.ofNat p:=rfl;rw[a,b];have:an .shl (.int .u64 (Int.ofNat p)) (.int .i64 (Int.ofNat n))=some (.int .u64 (.ofNat (Nat.mod (Nat.shiftLeft p (Nat.min n 64)) 18446744073709551616))):=rfl;rw[this,show Nat.min n 64=n from tp (by omega)];rfl
def psL(s:List Nat)(b:Bx):List Value:=us s++bxL b
def psV(s:List Nat)(b:Bx):Value:= .agg (psL s b).toArray
theorem Gt{b:Bx}(a:IsS s)(j:Nat):bK (psL s b) (8+j)=bK (bxL b) j:=by
 rw[cH,cH];unfold psL;rw[gK (by rw[aK,a.len];omega),aK,a.len,sb]
theorem SY{b:Bx}(a:IsS s){i:Nat}(hi:i<8):bK (psL s b) (0+0+i*1)=some (.int .u64 ((s.getD i 0:Nat):Int)):=by
 rw[cH,show 0+0+i*1=i by omega];unfold psL;rw[hG (by rw[aK,a.len];omega)];unfold us;rw[rb,lQ (by rw[a.len];exact hi)];rfl
structure QY (T:Nat->Option aq):Prop where
 p:aF T
 f212:T 108=some f212
variable{z:Int}
theorem HH(F:QY T)(hr:Rdy h)(I:IsS s){b:Bx}{x y:Int}(hx: -7<=x/\x<=7)(hy: -7<=y/\y<=7)(hz: -7<=z/\z<=7)(C:0<=b.lo.z/\b.lo.z<=7)(u:0<=b.hi.z/\b.hi.z<=7)(hl:0<=b.lo.z+z)(hh:b.hi.z+z<=7):
 Pu T 108 [psV s b, .int .i64 x, .int .i64 y, .int .i64 z] h (sv (pO s b x y z)):=by
 refine .of F.p F.f212 hr (jS _) ?_;unfold pO;have G:bxL b=[.int .i64 b.lo.x, .int .i64 b.lo.y, .int .i64 b.lo.z, .int .i64 b.hi.x, .int .i64 b.hi.y, .int .i64 b.hi.z]:=rfl;have Z:bK (psL s b) (0+8+0+2)=some (.int .i64 b.lo.z):=by rw[show 0+8+0+2=8+2 by omega,Gt I];rfl
 have eB:bK (psL s b) (0+8+3+2)=some (.int .i64 b.hi.z):=by rw[show 0+8+3+2=8+5 by omega,Gt I];rfl
 obtain⟨a,S⟩:=rp C.1;obtain⟨c,U⟩:=rp u.1;rw[S]at Z C hl;rw[U]at eB u hh;have eP:=λi hi=>SY (s:=s) (b:=b) I (i:=i) hi;have j:cellsOf (psV s b)=psL s b:=by show(psL s b).toArray.toList=_;simp
 have V:Ext h (((h.push (.cells (cellsOf (psV s b)) true 1)).push (.cells (aR 8 (.int .u64 0)) true 1)).push (.cells (aR 8 (.int .u64 0)) true 1)):=(((Ext.refl h).push _).push _).push _;have gA:(((h.push (.cells (cellsOf (psV s b)) true 1)).push (.cells (aR 8 (.int .u64 0)) true 1)).push (.cells (aR 8 (.int .u64 0)) true 1)).get h.next=some (.cells (psL s b) true 1):=by rw[j];(simp(disch:=first|omega|(simp only[z1,z2];omega))only[z3,z4,z5,z6,z7,z1,z2];done)
 have gB:(((h.push (.cells (cellsOf (psV s b)) true 1)).push (.cells (aR 8 (.int .u64 0)) true 1)).push (.cells (aR 8 (.int .u64 0)) true 1)).get (h.next+1)=some (.cells (us s0) true 1):=YG;have gC:(((h.push (.cells (cellsOf (psV s b)) true 1)).push (.cells (aR 8 (.int .u64 0)) true 1)).push (.cells (aR 8 (.int .u64 0)) true 1)).get (h.next+2)=some (.cells (us s0) true 1):=YG;have n0:(((h.push (.cells (cellsOf (psV s b)) true 1)).push (.cells (aR 8 (.int .u64 0)) true 1)).push (.cells (aR 8 (.int .u64 0)) true 1)).next=h.next+3:=rfl
 refine Y7 ?_;generalize(((h.push (.cells (cellsOf (psV s b)) true 1)).push (.cells (aR 8 (.int .u64 0)) true 1)).push (.cells (aR 8 (.int .u64 0)) true 1))=H at*;have hL:=V.log.trans hr.log;rw[S,U];have m1:an .mul (.int .i64 8) (.int .i64 y)=some (.int .i64 (8*y)):=K3 (by omega) (by omega);have m2:an .add (.int .i64 (8*y)) (.int .i64 x)=some (.int .i64 (8*y+x)):=jM (bO (by omega) (by omega));refine Y9 ?_
 refine cT (λm e O t=>∃n:Nat,(a+n<=c+1∨n=0)/\8-n=m/\e=[(1, .int .i64 x),(2, .int .i64 y),(3, .int .i64 z),(4, .pointer (some ⟨h.next,0,none⟩)),(8, .pointer (some ⟨h.next+1,0,none⟩)),(9, .pointer (some ⟨h.next+2,0,none⟩)),(10, .int .i64 ((a+n:Nat):Int))]/\O=[]/\Ext h t∧t.get h.next=some (.cells (psL s b) true 1)/\t.get (h.next+1)=some (.cells (us s0) true 1)/\t.get (h.next+2)=some (.cells (us (mP s a z (8*y+x) n)) true 1))
  ⟨0, .inr rfl,rfl,rfl,rfl,V,gA,gB,gC⟩ ?_
 rintro m e O t ⟨n,hn,rfl,rfl,rfl,g,P,Q,r⟩;have d:=tc I a z (8*y+x) n;by_cases hlt:a+n<=c
 ·have m3:an .leq (.int .i64 ((a+n:Nat):Int)) (.int .i64 (c:Nat))=some (.bool true):=fq (by omega);obtain⟨w,hw⟩:=rp (show 0<=((a+n:Nat):Int)+z by omega);have D:w<8:=by omega
  have m4:an .add (.int .i64 ((a+n:Nat):Int)) (.int .i64 z)=some (.int .i64 ((w:Nat):Int)):=jM (by rw[bO (by omega) (by omega)];omega);have e1:=eP (a+n) (by omega);have f:mP s a z (8*y+x) (n+1)=(mP s a z (8*y+x) n).set w (shP (s.getD (a+n) 0) (8*y+x)):=by
   rw[mP,hw];rfl
  have ae:=g.next
  by_cases hk:0<=8*y+x
  ·obtain⟨k,A⟩:=rp hk;have B:k<64:=by omega
   rw[A]at m2 f d r⊢;have m5:an .geq (.int .i64 ((k:Nat):Int)) (.int .i64 0)=some (.bool true):=wQ (by omega);have M:=Vz (p:=s.getD (a+n) 0) B;have q:shP (s.getD (a+n) 0) ((k:Nat):Int)=Nat.mod (Nat.shiftLeft (s.getD (a+n) 0) k) 18446744073709551616:=by
    unfold shP;rw[if_pos (by omega)];rfl
   rw[←q]at M;have E:=Fy (o:=mP s a z ((k:Nat):Int) n) (z:=w) (v:=shP (s.getD (a+n) 0) ((k:Nat):Int)) (by rw[d.len];exact D);rw[←f]at E;have L:(Nat.beq (cF (cellsOf (.int .u64 ((shP (s.getD (a+n) 0) ((k:Nat):Int):Nat):Int)))) 1&&Nat.ble (0+w*1+1) (cF (us (mP s a z ((k:Nat):Int) n)))&&eC (cellsOf (.int .u64 ((shP (s.getD (a+n) 0) ((k:Nat):Int):Nat):Int))))=true:=by
    rw[bX (us _),aK,d.len,gL (by omega)];rfl
   have K:n<8:=by omega
   refine Y37 ?_;refine aG (iV (by exact rfl) (by exact rfl) r L E) ?_;refine bH ?_;refine Y8 ?_;exact⟨8-(n+1),by omega,n+1, .inl (by omega),rfl,rfl,rfl,⟨g.next,(Heap.aD (by omega)).trans g.log,λb G=>(z5 (by omega)).trans (g.old b G),λw=>(g.wf w).as (AS.wr h.next _ _ _)⟩,(z5 (by omega)).trans P,(z5 (by omega)).trans Q,Heap.aI r⟩
  ·obtain⟨k,A⟩:=rp (show 0<= -(8*y+x)by omega);have B:k<64:=by omega
   have m5:an .geq (.int .i64 (8*y+x)) (.int .i64 0)=some (.bool false):=ue (by omega);have m7:yp .neg (.int .i64 (8*y+x))=some (.int .i64 ((k:Nat):Int)):=by
    show some (Value.int .i64 (fE .i64 (0-(8*y+x))))=_;rw[bO (by omega) (by omega)];congr 2;omega
   have M:an .shr (.int .u64 ((s.getD (a+n) 0:Nat):Int)) (.int .i64 ((k:Nat):Int))=_:=uS (a:=s.getD (a+n) 0) (n:=k) (by omega);have q:shP (s.getD (a+n) 0) (8*y+x)=Nat.shiftRight (s.getD (a+n) 0) k:=by
    unfold shP;rw[if_neg hk,show(-(8*y+x)).toNat=k by omega]
   rw[←q]at M;have E:=Fy (o:=mP s a z (8*y+x) n) (z:=w) (v:=shP (s.getD (a+n) 0) (8*y+x)) (by rw[d.len];exact D);rw[←f]at E;have L:(Nat.beq (cF (cellsOf (.int .u64 ((shP (s.getD (a+n) 0) (8*y+x):Nat):Int)))) 1&&Nat.ble (0+w*1+1) (cF (us (mP s a z (8*y+x) n)))&&eC (cellsOf (.int .u64 ((shP (s.getD (a+n) 0) (8*y+x):Nat):Int))))=true:=by
    rw[bX (us _),aK,d.len,gL (by omega)];rfl
   have K:n<8:=by omega
   refine Y35 ?_;refine aG (TZ (by exact rfl) (by assumption)) ?_;refine Y2 ?_;refine aG (iV (by exact rfl) (by exact rfl) r L E) ?_;refine bH ?_;refine Y8 ?_;exact⟨8-(n+1),by omega,n+1, .inl (by omega),rfl,rfl,rfl,⟨g.next,(Heap.aD (by omega)).trans g.log,λb G=>(z5 (by omega)).trans (g.old b G),λw=>(g.wf w).as (AS.wr h.next _ _ _)⟩,(z5 (by omega)).trans P,(z5 (by omega)).trans Q,Heap.aI r⟩
 ·have m3:an .leq (.int .i64 ((a+n:Nat):Int)) (.int .i64 (c:Nat))=some (.bool false):=eS (by omega);rw[show((a:Nat):Int).toNat=a by omega,show(((c:Nat):Int)-((a:Nat):Int)+1).toNat=n by omega];generalize mP s a z (8*y+x) n=o at*;have W:=cS d.len;have J:=bR d.len;have X:=dQ o;have Y:(us o).length=8:=by rw[aK,d.len]
  have N:(us s0).length=8:=rfl;refine Y17 ?_;refine aG (dg (by exact rfl) (by exact rfl) (by assumption) (by assumption) (by assumption) (by exact dQ _)) ?_;refine Y2 ?_;refine au ?_ (dW (own:=true) (s:=1) (l:=us o) rfl ?_ W J rfl) rfl
  ·rw[Heap.aD (by show h.next<=h.next+1;omega)];exact g.log.trans hr.log
  ·exact YG
structure QS (T:Nat->Option aq):Prop where
 p:aF T
 f188:T 82=some f188
 f254:T 109=some f254
def j6(s:List Nat):Nat:=(cM s 512).length
theorem sS(F:QS T)(hr:Rdy h)(b:IsS s):Pu T 82 [sv s] h (.int .i64 ((j6 s:Nat):Int)):=by
 refine .of F.p F.f188 hr rfl ?_;have o:=bR b.len;have q:=cS b.len;have W:=hr.wf.push (.cells (cellsOf (sv s)) true 1);have j:=mj s 512;unfold j6;refine Y9 ?_;refine aG (di (by exact rfl) YG (by assumption) (by assumption)) ?_;refine Y3 ?_
 refine cT (λm e f g=>∃z:Nat,z<=8/\8-z=m/\e=[(3, .int .i64 (((cM s (z*64)).length:Nat):Int)),(6,sv s),(7, .int .i64 (z:Nat))]/\f=[]/\h.push (.cells (cellsOf (sv s)) true 1)=g)
  ⟨0,by omega,rfl,rfl,rfl,rfl⟩ ?_
 rintro m e f g ⟨z,l,rfl,rfl,rfl,rfl⟩;by_cases hz:z<8
 ·have n:bK (us s).toArray.toList (z*1)=some (.int .u64 ((s.getD z 0:Nat):Int)):=by
   rw[xn,rt,cH];unfold us;rw[rb,lQ (by rw[b.len];exact hz)];rfl
  have C:=Pa F.p F.f254 (.of W) (b.mO z);have a:=nh s hz;have k:=mj s (z*64);have d:(rZ s z).length=(bitsOf (s.getD z 0)).length:=by unfold rZ;rw[po]
  have i:(bitsOf (s.getD z 0)).length<=64:=by
   unfold bitsOf;exact gd (Co ..) (by simp)
  have r:an .add (.int .i64 (((cM s (z*64)).length:Nat):Int)) (.int .i64 (((bitsOf (s.getD z 0)).length:Nat):Int))=some (.int .i64 (((cM s ((z+1)*64)).length:Nat):Int)):=by
   rw[a,ec,d];exact jM (by rw[bO (by omega) (by omega)];omega)
  generalize(bitsOf (s.getD z 0)).length=c3 at*;refine Y10 ?_;refine aG (Ar (by exact rfl) (by exact rfl) (by omega) (by assumption)) ?_;refine Y6 ?_;refine FW.pu C ?_;clear C;refine Y2 ?_;refine bH ?_;refine Y7 ?_;exact⟨8-(z+1),by omega,z+1,by omega,rfl,rfl,rfl,rfl⟩
 ·obtain rfl:z=8:=by omega
  rw[show 8*64=512 from rfl];generalize(cM s 512).length=c at*;refine Y15 ?_;exact au hr.log rfl rfl
structure Fi where
 t:Nat
 x:Int
 y:Int
 z:Int
 s:List Nat
def moV(t x y z:Int):Value:= .agg #[.int .i64 t, .int .i64 x, .int .i64 y, .int .i64 z]
def fiV(f:Fi):List Value:=[moV f.t f.x f.y f.z,sv f.s]
def zrN(lo:Int)(n:Nat):List Int:=(List.range n).map λi=>lo+(i:Nat)
theorem NN(lo:Int)(n:Nat):zrN lo (n+1)=zrN lo n++[lo+(n:Nat)]:=by unfold zrN;rw[A1,tk];rfl
def zr(lo hi:Int):List Int:=zrN lo (hi-lo+1).toNat
def ze(a p:List Nat)(bp:Bx)(t:Nat)(z y x:Int):List Fi:=if sIn (pO p bp x y z) a then [⟨t,x,y,z,pO p bp x y z⟩]else []
def wC(a p:List Nat)(ra bp:Bx)(t:Nat)(z y:Int):List Fi:=(zr (ra.lo.x-bp.lo.x) (ra.hi.x-bp.hi.x)).flatMap (ze a p bp t z y)
def AG(a p:List Nat)(ra bp:Bx)(t:Nat)(z:Int):List Fi:=(zr (ra.lo.y-bp.lo.y) (ra.hi.y-bp.hi.y)).flatMap (wC a p ra bp t z)
def Oo(a p:List Nat)(ra bp:Bx)(t:Nat):List Fi:=(zr (ra.lo.z-bp.lo.z) (ra.hi.z-bp.hi.z)).flatMap (AG a p ra bp t)
def rH(a b:List Nat)(t:Nat):List Fi:=Oo a (jR b t) (jV a).1 (jV (jR b t)).1 t
def kU(a b:List Nat):List Fi:=if a=s0∨j6 a<j6 b then []else(List.range 24).flatMap (rH a b)
structure Ef (b:Bx):Prop where
 lo:InB b.lo
 hi:InB b.hi
theorem K8{a b:Int}(c:0<=a/\a<=7)(hb:0<=b/\b<=7):0<=mi a b/\mi a b<=7:=by unfold mi;split<;>assumption
theorem La{a b:Int}(c:0<=a/\a<=7)(hb:0<=b/\b<=7):0<=mx a b/\mx a b<=7:=by unfold mx;split<;>assumption
theorem Ef.up{b:Bx}(h:Ef b){c:Ce}(a:InB c):Ef (G9 b c):=
 ⟨⟨K8 h.lo.x a.x,K8 h.lo.y a.y,K8 h.lo.z a.z⟩,⟨La h.hi.x a.x,La h.hi.y a.y,La h.hi.z a.z⟩⟩
theorem RJ:∀{l:List Ce},(∀c∈l,InB c)->Ef (bxS l):=by
 intro l;have:∀(l:List Ce) (b:Bx),Ef b->(∀c∈l,InB c)->Ef (l.foldl G9 b):=by
  intro l;induction l with
  |nil=>intro b d _;exact d
  |cons c l ih=>intro b d a;exact ih _ (d.up (a c b6)) λx e=>a x (bz _ e)
 exact λa=>this l bx0 ⟨⟨by decide,by decide,by decide⟩,⟨by decide,by decide,by decide⟩⟩ a
theorem vp(s:List Nat):Ef (jV s).1:=by
 unfold jV;split
 ·exact⟨⟨by decide,by decide,by decide⟩,⟨by decide,by decide,by decide⟩⟩
 ·exact RJ λc a=>vC.1 (tT a)
structure QV (T:Nat->Option aq):Prop where
 mp:BV T
 bd:QO T
 li:QY T
 co:QS T
 f35:T 46=some f35
 f121:T 76=some f121
 f209:T 105=some f209
def vf:Bx:=⟨c0,c0⟩
theorem Ol{e:Env}{x:Operand}(a:IsS s)(f:ev h e x=some (sv s)):je h e [.int .u64 0, .int .u64 0, .int .u64 0, .int .u64 0, .int .u64 0, .int .u64 0, .int .u64 0, .int .u64 0,I.O,I.O,I.O,I.O,I.O,I.O] [(0,8,x)]=some (psL s vf):=by
 have b:cellsOf (sv s)=us s:=by show(us s).toArray.toList=_;simp
 have h0:psL s0 vf=[.int .u64 0, .int .u64 0, .int .u64 0, .int .u64 0, .int .u64 0, .int .u64 0, .int .u64 0, .int .u64 0,I.O,I.O,I.O,I.O,I.O,I.O]:=rfl;have c:cW (psL s0 vf) 0 (us s)=psL s vf:=by
  rw[eY (by rw[aK,a.len];decide),aK,a.len,xp];rfl
 have d:cF (us s)=8:=by rw[bX,aK,a.len]
 rw[←h0];have g:(Nat.beq 8 8&&Nat.ble (0+8) (cF (psL s0 vf)))=true:=rfl;simp only[je,f,b,c,d];rfl
theorem Bg{b:Bx}(a:IsS s):(psL s b).length=14:=by
 unfold psL;rw[ec,aK,a.len];rfl
theorem Pt{b:Bx}(a:IsS s):cG 14 (cw 0 (psL s b))=psL s b:=by rw[bQ,aW,py,gk (by rw[Bg a];omega)]
theorem Mj{b:Bx}(a:IsS s):Nat.beq (cF (psL s b)) 14=true:=by rw[bX,Bg a];rfl
theorem Mk{b:Bx}:eC (psL s b)=true:=pV (dQ _) rfl
theorem VL{b:Bx}(a:IsS s):cG 8 (cw (0+0) (psL s b))=us s:=by
 rw[bQ,aW,hX,py];unfold psL;rw[j3 (by rw[aK,a.len];omega),gk (by rw[aK,a.len];omega)]
theorem SZ{b b':Bx}(a:IsS s):cW (psL s b) (0+8) (cellsOf (bxV b'))=psL s b':=by
 show cW (psL s b) 8 (bxL b')=_;unfold psL;rw[eY (by rw[ec,aK,a.len];exact bl _),j3 (by rw[aK,a.len];omega),gk (by rw[aK,a.len];omega),pA (by rw[ec,aK,a.len];exact bl _)];simp
theorem SX{b:Bx}(a:IsS s):cG 3 (cw (0+8+0) (psL s b))=ceL b.lo:=by
 rw[bQ,aW];unfold psL;rw[show 0+8+0=(us s).length by rw[aK,a.len],Ej];rfl
theorem SV{b:Bx}(a:IsS s):cG 3 (cw (0+8+3) (psL s b))=ceL b.hi:=by
 rw[bQ,aW];unfold psL;rw[GE,aK,a.len,pA (by rw[aK,a.len];omega)];rfl
structure FxK (P:List Fi->Heap->Prop) (lo:Nat) (h0:Heap) (q:Nat) (rm bp:Bx) (p:List Nat) (D:List Fi) (g:Heap):Prop where
 k:Lk lo h0 g
 pd:P D g
 nx:q+2<g.next
 g4:g.get h0.next=some (.cells (bxL rm) true 1)
 g7:g.get q=some (.cells (psL p bp) true 1)
 g8:g.get (q+1)=some (.cells (ceL bp.lo) true 1)
 g9:g.get (q+2)=some (.cells (ceL bp.hi) true 1)
variable{hi lo:Int}
theorem FE{n:Nat}(h:z=lo+(n:Nat))(a:z<=hi):z∈zr lo hi:=List.mem_map.2 ⟨n,List.mem_range.2 (by omega),h.symm⟩
theorem yK{α:Type}(lo:Int)(n:Nat)(f:Int->List α)(h:z=lo+(n:Nat)):(zrN lo (n+1)).flatMap f=(zrN lo n).flatMap f++f z:=by
 rw[NN,vy,h];simp
theorem Bv{n:Nat}(h1:n=0∨lo+(n:Nat)<=hi+1)(a:hi<lo+(n:Nat)):n=(hi-lo+1).toNat:=by omega
end Go.A.Pk
end
section
namespace Go.A.Pk
variable {T:Nat->Option aq}
structure FxL (P:List Fi->Heap->Prop) (W:Heap->Nat->Prop) (lo:Nat) (h0:Heap) (q0 q:Nat) (rm bp:Bx) (p:List Nat) (D:List Fi) (g:Heap):Prop where
 k:Lk lo h0 g
 pd:P D g
 dm:((∀x,x<h0.next->g.get x=h0.get x)/\P D h0)∨q0∈g.log/\jd g q0
 nx:q+2<g.next
 g4:g.get h0.next=some (.cells (bxL rm) true 1)
 g7:g.get q=some (.cells (psL p bp) true 1)
 g8:g.get (q+1)=some (.cells (ceL bp.lo) true 1)
 g9:g.get (q+2)=some (.cells (ceL bp.hi) true 1)
 w4:¬W g h0.next
 w7:¬W g q
 w8:¬W g (q+1)
 w9:¬W g (q+2)
theorem JX{P:List Fi->Heap->Prop}{d:Heap}{q0:Nat}{D:List Fi}{g e:Heap}(h:q0<d.next)(j:d.next<=g.next)(f:((∀x,x<d.next->g.get x=d.get x)/\P D d)∨q0∈g.log/\jd g q0)(x:Ext g e):((∀x,x<d.next->e.get x=d.get x)/\P D d)∨q0∈e.log/\jd e q0:=by
 rcases f with⟨a,b⟩|⟨a,vs,own,t,b,c⟩
 ·exact .inl ⟨λz i=>(x.old z (by omega)).trans (a z i),b⟩
 ·exact .inr ⟨by rw[x.log];exact a,vs,own,t,(x.old _ (by omega)).trans b,c⟩
section
variable {lo N l q0:Nat} {all:List Fi} {P:List Fi->Heap->Prop} {W:Heap->Nat->Prop} {h0:Heap} {q:Nat} {rm bp:Bx} {p:List Nat} {D D':List Fi} {g g':Heap}
theorem FxL.ext(Y:GV T lo N l q0 fiV all P W)(f:FxL P W lo h0 q0 q rm bp p D g)(x:Ext g g')(b:lo<=g.next)(c:q0<h0.next)(i:h0.next<q):FxL P W lo h0 q0 q rm bp p D g':=by
 have d:=x.next
 have h:=f.nx;have a:∀z,¬W g z->¬W g' z:=λz e q=>e (Y.wst _ _ _ f.pd d x.old z q);exact⟨f.k.trans (x.lk b),Y.fu _ _ _ f.pd d x.old,JX c f.k.next f.dm x,by omega,(x.old _ (by omega)).trans f.g4,(x.old _ (by omega)).trans f.g7,(x.old _ (by omega)).trans f.g8,(x.old _ (by omega)).trans f.g9,a _ f.w4,a _ f.w7,a _ f.w8,a _ f.w9⟩
theorem FxL.step(f:FxL P W lo h0 q0 q rm bp p D g)(x:Lk lo g g')(d:q0∈g'.log/\jd g' q0)(c:P D' g')(b:∀z,z<g.next->¬W g z->g'.get z=g.get z)(h:∀z,W g' z->W g z∨g.next<=z)(l:h0.next<q):FxL P W lo h0 q0 q rm bp p D' g':=by
 have i:=x.next
 have j:=f.nx;have a:∀z,z<g.next->¬W g z->¬W g' z:=λz m e q=>(h z q).elim e λq=>by omega
 exact⟨f.k.trans x,c, .inr d,by omega,(b _ (by omega) f.w4).trans f.g4,(b _ (by omega) f.w7).trans f.g7,(b _ (by omega) f.w8).trans f.g8,(b _ (by omega) f.w9).trans f.g9,a _ (by omega) f.w4,a _ (by omega) f.w7,a _ (by omega) f.w8,a _ (by omega) f.w9⟩
end
theorem Hs{α:Type}{D:List Fi}{L:List α}{n:Nat}(h:D.length<=n){f:Fi}:(D++[f]).length<=n+1:=by rw[ec];exact Nat.succ_le_succ h
variable{h:Heap}{a b:List Nat}
theorem Kb(F:QV T)(hr:Rdy h){qa qb l q0 N lo:Nat}(ha:IsS a)(hb:IsS b){P:List Fi->Heap->Prop}{W:Heap->Nat->Prop}(hN:N<=h.next)(eQ:lo<=h.next)(gt:0<N)
 (Y:GV T lo N l q0 fiV (kU a b) P W)
 (ga:∀d H,P d H->H.get qa=some (.cells (us a) true 1))(gb:∀d H,P d H->H.get qb=some (.cells (us b) true 1))(M:∀d H,P d H->Tab H)(h0:P [] h):
 Gr T 105 [.func (.yield l) #[] #[], .pointer (some ⟨qa,0,none⟩), .pointer (some ⟨qb,0,none⟩)] h lo λv c=>v= .tuple #[]/\P (kU a b) c:=by
 have hp:=F.li.p;have ie:=bR ha.len;have ii:=cS ha.len;have ik:=bR hb.len;have il:=cS hb.len;have ae:q0<h.next:=hK Y.hq hN
 refine Gr.ofK hp F.f209 eQ (λv h1 hA p=>KE Y ae hA p) ?_;have C0:=zw F.bd (h:={h with log:=[]}) (.of hr.wf) (show Tab h from M _ _ h0) (by show 0<h.next;omega) ha;have gA:=ga _ _ h0;unfold RI at C0;have bi:(jV a).2= !decide (a=s0):=by
  unfold jV;by_cases he:a=s0
  ·rw[if_pos he,decide_eq_true he];rfl
  ·rw[if_neg he,decide_eq_false he];rfl
 have E:=vp a;have dT:∀t,rH a b t=Oo a (jR b t) (jV a).1 (jV (jR b t)).1 t:=λ_=>rfl;rw[bi]at C0;generalize(jV a).1=rm at*;refine cI (E0:=[(0, .func (.yield l) #[] #[]),(1, .pointer (some ⟨qa,0,none⟩)),(2, .pointer (some ⟨qb,0,none⟩)),(4, .pointer (some ⟨h.next,0,none⟩)),(5, .bool (!decide (a=s0)))]) (P:=λc=>Ext h c∧c.next=h.next+1/\c.get h.next=some (.cells (bxL rm) true 1)) ?_ ?_
 ·refine Y3 ?_;refine FW.pu C0 ?_;refine Y6 ?_;refine bH ?_;refine y1 ?_;exact⟨rfl,rfl,rfl,fK (by omega) _ _,rfl,gY _ _⟩
 clear C0;rintro H1 ⟨r,n1,q1⟩;have W1:=r.wf hr.wf;have cf:=r.log.trans hr.log;have X:Lk lo h H1:=⟨r.next,λhh=>by rw[cf];exact eR.nil _,λz hz=>r.old z (by omega),r.wf⟩;have u:P [] H1:=Y.fu _ _ _ h0 r.next r.old
 have B:((∀x,x<h.next->H1.get x=h.get x)/\P [] h)∨q0∈H1.log/\jd H1 q0:= .inl ⟨r.old,h0⟩;have d9:¬W H1 h.next:=λq=>pp _ (Y.wlt _ _ _ h0 (Y.wst _ _ _ h0 r.next r.old _ q))
 have dp:=ga _ _ u;have du:=gb _ _ u;clear gA;by_cases he:a=s0
 ·have hf:kU a b=[]:=if_pos (.inl he);rw[hf,decide_eq_true he];refine Y4 ?_;refine aO rfl rfl rfl (by exact rfl) (by exact rfl) (by exact rfl) (sL (by exact rfl)) ?_;refine Y13 ?_;exact CB (X.log (by rw[hr.log];exact eR.nil _)) rfl ⟨rfl,u,B⟩
 rw[decide_eq_false he];have C1:=sS F.co (h:={H1 with log:=[]}) (.of W1) hb;have C2:=sS F.co (h:={H1 with log:=[]}) (.of W1) ha;by_cases hcn:j6 a<j6 b
 ·have hf:kU a b=[]:=if_pos (.inr hcn);rw[hf];have m1:an .gtr (.int .i64 ((j6 b:Nat):Int)) (.int .i64 ((j6 a:Nat):Int))=some (.bool true):=fM (by omega);refine Y4 ?_;refine aO rfl rfl rfl (by exact rfl) (by exact rfl) (by exact rfl) (sL (by exact rfl)) ?_;refine Y4 ?_;refine FW.puD C1 (by apply ah rfl (af rfl (di (by exact rfl) (by assumption) (by assumption) (by assumption)) (by exact yh _)) rfl;(repeat apply aC rfl);exact aY) ?_;skip;refine qC ?_;refine FW.puD C2 (by apply aC rfl;exact aY) ?_;refine Y8 ?_;exact CB (X.log (by rw[hr.log];exact eR.nil _)) rfl ⟨rfl,u,B⟩
 have hf:kU a b=(List.range 24).flatMap (rH a b):=if_neg (λq=>q.elim he hcn);have m1:an .gtr (.int .i64 ((j6 b:Nat):Int)) (.int .i64 ((j6 a:Nat):Int))=some (.bool false):=gZ (by omega);refine Y4 ?_;refine aO rfl rfl rfl (by exact rfl) (by exact rfl) (by exact rfl) (sL (by exact rfl)) ?_;refine Y4 ?_;refine FW.puD C1 (by apply ah rfl (af rfl (di (by exact rfl) (by assumption) (by assumption) (by assumption)) (by exact yh _)) rfl;(repeat apply aC rfl);exact aY) ?_;skip;refine qC ?_;refine FW.puD C2 (by apply aC rfl;exact aY) ?_;clear C1 C2;refine Y12 ?_
 refine cT (λk e I c=>∃t:Nat,t<=24/\24-t=k/\e=[(0, .func (.yield l) #[] #[]),(1, .pointer (some ⟨qa,0,none⟩)),(2, .pointer (some ⟨qb,0,none⟩)),(4, .pointer (some ⟨h.next,0,none⟩)),(28, .int .i64 (t:Nat))]/\I=[]/\Lk lo h c∧P ((List.range t).flatMap (rH a b)) c∧h.next<c.next/\c.get h.next=some (.cells (bxL rm) true 1)/\(((∀x,x<h.next->c.get x=h.get x)/\P ((List.range t).flatMap (rH a b)) h)∨q0∈c.log/\jd c q0)/\¬W c h.next/\((List.range t).flatMap (rH a b)).length<=t*4096)
  ⟨0,md _,rfl,rfl,rfl,X,u,by omega,q1,B,d9,md _⟩ ?_
 clear u dp du q1 X W1 cf r n1 B d9;rintro k e I G ⟨t,fY,rfl,rfl,rfl,hk,U,be,g4,V,da,eK⟩;have WG:=hk.wf hr.wf;by_cases ht:t<24
 ·have m:=yd b t;have A:=vp (jR b t);have D1:=P3 F.mp (h:={G with log:=[]}) (.of WG) (show Tab G from M _ _ U) (by show 0<G.next;omega) hb ht;have gB:=gb _ _ U;have hT:(List.range (t+1)).flatMap (rH a b)=(List.range t).flatMap (rH a b)++rH a b t:=by rw[A1,vy];simp
  have K:∀f∈rH a b t,f∈kU a b:=λf dE=>by
   rw[hf];exact List.mem_flatMap.2 ⟨t,List.mem_range.2 ht,dE⟩
  rw[dT t]at hT K;generalize(List.range t).flatMap (rH a b)=D at*;generalize hbb:jV (jR b t)=bb at*;generalize jR b t=p at*;obtain⟨bp,fj⟩:=bb;dsimp only at A hT K;have f9:=bR m.len;have aw:=Bg (b:=vf) m;have bj:=Mk (s:=p) (b:=vf);refine Y13 ?_;refine cI (E0:=[(0, .func (.yield l) #[] #[]),(1, .pointer (some ⟨qa,0,none⟩)),(2, .pointer (some ⟨qb,0,none⟩)),(4, .pointer (some ⟨h.next,0,none⟩)),(6, .int .i64 (t:Nat)),(7, .pointer (some ⟨G.next,0,none⟩)),(28, .int .i64 (t:Nat))]) (P:=λc=>Ext G c∧c.next=G.next+1/\c.get G.next=some (.cells (psL p vf) true 1)) ?_ ?_
  ·refine Y4 ?_;refine FW.pu D1 ?_;skip;refine aG (qn (Ol m (by exact rfl))) ?_;refine aG (uG) ?_;refine aG (dg (by exact rfl) (by exact rfl) YG (by assumption) (by exact rfl) (by assumption)) ?_;refine bH ?_;refine y1 ?_;exact⟨rfl,rfl,rfl,fK (by omega) _ _,rfl,gY _ _⟩
  clear D1;rintro G1 ⟨r,n1,q1⟩;have cd:=r.wf WG;have u:P D G1:=Y.fu _ _ _ U r.next r.old
  have D2:=zw F.bd (h:={G1 with log:=[]}) (.of cd) (show Tab G1 from M _ _ u) (by show 0<G1.next;omega) m;rw[hbb]at D2;unfold RI at D2;dsimp only at D2;have ks:=VL (b:=vf) m;have ku:=SZ (b:=vf) (b':=bp) m;have dj:(Nat.beq (cF (cellsOf (bxV bp))) 6&&Nat.ble (0+8+6) (cF (psL p vf))&&eC (cellsOf (bxV bp)))=true:=by
   rw[bX (psL p vf),aw];rfl
  refine cI (E0:=[(0, .func (.yield l) #[] #[]),(1, .pointer (some ⟨qa,0,none⟩)),(2, .pointer (some ⟨qb,0,none⟩)),(4, .pointer (some ⟨h.next,0,none⟩)),(6, .int .i64 (t:Nat)),(7, .pointer (some ⟨G.next,0,none⟩)),(28, .int .i64 (t:Nat))]) (P:=λc=>Ext G c∧c.next=G.next+1/\c.get G.next=some (.cells (psL p bp) true 1)) ?_ ?_
  ·refine Y4 ?_;refine FW.pu D2 ?_;refine Y4 ?_;refine aG (iV (by exact rfl) (by exact rfl) q1 dj ku) ?_;refine bH ?_;refine y1 ?_;exact⟨rfl,rfl,rfl,⟨r.next,(Heap.aD (by omega)).trans r.log,λb hb=>(z5 (by omega)).trans (r.old b hb),λw=>(r.wf w).as (AS.wr h.next _ _ _)⟩,n1,Heap.aI q1⟩
  clear D2 q1 u cd n1 r;rintro S ⟨x2,n2,q2⟩;have kl:=SX (b:=bp) m;have kh:=SV (b:=bp) m;have cl:Nat.beq (cF (ceL bp.lo)) 3=true:=rfl;have ch:Nat.beq (cF (ceL bp.hi)) 3=true:=rfl;refine cI (E0:=[(0, .func (.yield l) #[] #[]),(1, .pointer (some ⟨qa,0,none⟩)),(2, .pointer (some ⟨qb,0,none⟩)),(4, .pointer (some ⟨h.next,0,none⟩)),(6, .int .i64 (t:Nat)),(7, .pointer (some ⟨G.next,0,none⟩)),(8, .pointer (some ⟨S.next,0,none⟩)),(9, .pointer (some ⟨S.next+1,0,none⟩)),(28, .int .i64 (t:Nat))]) (P:=λc=>Ext G c∧c.next=S.next+2/\c.get G.next=some (.cells (psL p bp) true 1)/\c.get S.next=some (.cells (ceL bp.lo) true 1)/\c.get (S.next+1)=some (.cells (ceL bp.hi) true 1)) ?_ ?_
  ·refine Y3 ?_;refine aO rfl rfl rfl (by exact rfl) (by exact rfl) (by exact rfl) (di (by exact rfl) (by assumption) (by assumption) (by exact rfl)) ?_;refine Y2 ?_;refine aO rfl rfl rfl (by exact rfl) (by exact rfl) (by exact rfl) (di (by exact rfl) (by assumption) (by assumption) (by exact rfl)) ?_;refine BO rfl rfl rfl (by exact rfl) (by exact rfl) (by exact rfl) uG (by refine ff (af rfl (di (by exact rfl) YG (by assumption) (by exact rfl)) (by refine lH ?_;refine bI (iI _ _) ?_;refine bI (iI _ _) ?_;exact bI (iI _ _) (by assumption))) ?_;refine ff (af rfl (cN (by exact rfl)) (by exact aV _)) ?_;refine ff (af rfl (cN (by exact rfl)) (by exact aV _)) ?_;refine ff (af rfl (di (by exact rfl) YG (by assumption) (by exact rfl)) (by refine lH ?_;refine bI (iI _ _) ?_;refine bI (iI _ _) ?_;exact bI (iI _ _) (by assumption))) ?_;refine ff (af rfl (cN (by exact rfl)) (by exact aV _)) ?_;refine ff (af rfl (cN (by exact rfl)) (by exact aV _)) ?_;exact Bz) ?_;refine BO rfl rfl rfl (by exact rfl) (by exact rfl) (by exact rfl) uG (by refine ff (PO rfl) ?_;refine ff (af rfl (di (by exact rfl) YG (by assumption) (by exact rfl)) (by refine lH ?_;refine bI (iI _ _) ?_;refine bI (iI _ _) ?_;exact bI (iI _ _) (by assumption))) ?_;refine ff (af rfl (cN (by exact rfl)) (by exact aV _)) ?_;refine ff (af rfl (cN (by exact rfl)) (by exact aV _)) ?_;refine ff (af rfl (di (by exact rfl) YG (by assumption) (by exact rfl)) (by refine lH ?_;refine bI (iI _ _) ?_;refine bI (iI _ _) ?_;exact bI (iI _ _) (by assumption))) ?_;refine ff (af rfl (cN (by exact rfl)) (by exact aV _)) ?_;refine ff (af rfl (cN (by exact rfl)) (by exact aV _)) ?_;exact Bz) ?_;refine yG rfl rfl rfl (by exact rfl) (by exact rfl) (by exact rfl) YG (by exact rfl) (by exact rfl) (by(simp only[z1,z2];omega)) (by omega) (by(repeat apply aC rfl);apply ah rfl (af rfl (di (by exact rfl) YG (by assumption) (by exact rfl)) (by refine lH ?_;refine bI (iI _ _) ?_;refine bI (iI _ _) ?_;exact bI (iI _ _) (by assumption))) rfl;apply ah rfl (af rfl (cN (by exact rfl)) (by exact aV _)) rfl;apply ah rfl (af rfl (cN (by exact rfl)) (by exact aV _)) rfl;(repeat apply aC rfl);exact aY) ?_;refine yG rfl rfl rfl (by exact rfl) (by exact rfl) (by exact rfl) YG (by exact rfl) (by exact rfl) (by(simp only[z1,z2];omega)) (by(simp only[z1,z2];omega)) (by(repeat apply aC rfl);exact aY) ?_;refine Y2 ?_;refine⟨rfl,rfl,rfl,⟨by show G.next<=S.next+2;omega,by rw[Heap.aD (by show h.next<=S.next+1;omega),Heap.aD (by omega)];exact x2.log,λb hb=>by
    rw[z5 (by show b≠S.next+1;omega),z5 (by omega),z4 (by show b<S.next+1;omega),z4 (by omega)];exact x2.old b hb,λw=>((((x2.wf w).push _).push _).as (AS.wr _ _ _ _)).as (AS.wr _ _ _ _)⟩,rfl,?_,?_,?_⟩
   ·exact YG
   ·exact YG
   ·exact YG
  rintro G3 ⟨x3,n3,q3,q8,Q⟩;rw[n2]at n3 q8 Q⊢;have cJ:Lk lo h G3:=hk.trans (x3.lk (by have:=hk.next;omega));have cj:P D G3:=Y.fu _ _ _ U x3.next x3.old
  have O:∀z,W G3 z->W G z:=Y.wst _ _ _ U x3.next x3.old
  have ar:∀z,W G z->z<G.next:=λz=>Y.wlt _ _ z U
  have g:FxL P W lo h q0 G.next rm bp p D G3:=⟨cJ,cj,JX ae hk.next V x3,by omega,(x3.old _ be).trans g4,q3,q8,Q,λq=>da (O _ q),λq=>absurd (ar _ (O _ q)) (by omega),λq=>absurd (ar _ (O _ q)) (by omega),λq=>absurd (ar _ (O _ q)) (by omega)⟩
  have i4:N<=G.next:=by have:=hk.next;omega
  have cY:h.next<G.next:=be
  clear q2 x2 n2 q3 q8 Q cJ cj x3 n3 g4 be U hk gB O ar da V ks ku dj f9 aw bj kl kh cl ch WG;generalize G.next=q at*
  have i5:=E.lo.x;have i6:=E.hi.x;have i7:=E.lo.y;have i8:=E.hi.y;have i9:=E.lo.z;have ib:=E.hi.z;have jn:=A.lo.x;have jp:=A.hi.x;have ju:=A.lo.y;have jz:=A.hi.y;have fd:=A.lo.z;have fg:=A.hi.z;have lf:an .sub (.int .i64 rm.lo.z) (.int .i64 bp.lo.z)=some (.int .i64 (rm.lo.z-bp.lo.z)):=mQ (bO (by omega) (by omega));have lh:an .sub (.int .i64 rm.hi.z) (.int .i64 bp.hi.z)=some (.int .i64 (rm.hi.z-bp.hi.z)):=mQ (bO (by omega) (by omega));have lc:an .sub (.int .i64 rm.lo.y) (.int .i64 bp.lo.y)=some (.int .i64 (rm.lo.y-bp.lo.y)):=mQ (bO (by omega) (by omega));have ld:an .sub (.int .i64 rm.hi.y) (.int .i64 bp.hi.y)=some (.int .i64 (rm.hi.y-bp.hi.y)):=mQ (bO (by omega) (by omega));have kd:an .sub (.int .i64 rm.lo.x) (.int .i64 bp.lo.x)=some (.int .i64 (rm.lo.x-bp.lo.x)):=mQ (bO (by omega) (by omega));have ke:an .sub (.int .i64 rm.hi.x) (.int .i64 bp.hi.x)=some (.int .i64 (rm.hi.x-bp.hi.x)):=mQ (bO (by omega) (by omega));have q4:=g.g4;have q8:=g.g8;refine Y10 ?_
  refine cT (λk e I c=>∃(n:Nat) (z:Int),z=rm.lo.z-bp.lo.z+(n:Nat)/\(n=0∨z<=rm.hi.z-bp.hi.z+1)/\16-n=k/\e=[(0, .func (.yield l) #[] #[]),(1, .pointer (some ⟨qa,0,none⟩)),(2, .pointer (some ⟨qb,0,none⟩)),(4, .pointer (some ⟨h.next,0,none⟩)),(6, .int .i64 (t:Nat)),(7, .pointer (some ⟨q,0,none⟩)),(8, .pointer (some ⟨q+1,0,none⟩)),(9, .pointer (some ⟨q+1+1,0,none⟩)),(10, .int .i64 z),(28, .int .i64 (t:Nat))]/\I=[]/\FxL P W lo h q0 q rm bp p (D++(zrN (rm.lo.z-bp.lo.z) n).flatMap (AG a p rm bp t)) c∧(D++(zrN (rm.lo.z-bp.lo.z) n).flatMap (AG a p rm bp t)).length<=t*4096+n*256)
   ⟨0,_,by simp, .inl rfl,rfl,rfl,rfl,by rw[show zrN (rm.lo.z-bp.lo.z) 0=[]from rfl,zt,oC];exact g,by rw[show zrN (rm.lo.z-bp.lo.z) 0=[]from rfl,zt,oC];exact gd eK (by omega)⟩ ?_
  clear g q4 q8;rintro k e I G ⟨n,z,hz,hn,rfl,rfl,rfl,g,ba⟩;have fX:n<16:=by omega
  by_cases hle:z<=rm.hi.z-bp.hi.z
  ·have lz:an .leq (.int .i64 z) (.int .i64 (rm.hi.z-bp.hi.z))=some (.bool true):=fq hle;have az:an .add (.int .i64 z) (.int .i64 1)=some (.int .i64 (z+1)):=jM (bO (by omega) (by omega));have mz:=FE hz hle;have fz:=yK (rm.lo.z-bp.lo.z) n (AG a p rm bp t) hz;have hY:AG a p rm bp t z=(zr (rm.lo.y-bp.lo.y) (rm.hi.y-bp.hi.y)).flatMap (wC a p rm bp t z):=rfl;have q4:=g.g4;have q8:=g.g8;have Q:=g.g9;generalize hDz:D++(zrN (rm.lo.z-bp.lo.z) n).flatMap (AG a p rm bp t)=Dz at*;refine Y26 ?_
   refine cT (λk e I c=>∃(j:Nat) (y:Int),y=rm.lo.y-bp.lo.y+(j:Nat)/\(j=0∨y<=rm.hi.y-bp.hi.y+1)/\16-j=k/\e=[(0, .func (.yield l) #[] #[]),(1, .pointer (some ⟨qa,0,none⟩)),(2, .pointer (some ⟨qb,0,none⟩)),(4, .pointer (some ⟨h.next,0,none⟩)),(6, .int .i64 (t:Nat)),(7, .pointer (some ⟨q,0,none⟩)),(8, .pointer (some ⟨q+1,0,none⟩)),(9, .pointer (some ⟨q+1+1,0,none⟩)),(10, .int .i64 z),(11, .int .i64 y),(28, .int .i64 (t:Nat))]/\I=[]/\FxL P W lo h q0 q rm bp p (Dz++(zrN (rm.lo.y-bp.lo.y) j).flatMap (wC a p rm bp t z)) c∧(Dz++(zrN (rm.lo.y-bp.lo.y) j).flatMap (wC a p rm bp t z)).length<=t*4096+n*256+j*16)
    ⟨0,_,by simp, .inl rfl,rfl,rfl,rfl,by rw[show zrN (rm.lo.y-bp.lo.y) 0=[]from rfl,zt,oC];exact g,by rw[show zrN (rm.lo.y-bp.lo.y) 0=[]from rfl,zt,oC];exact gd ba (by omega)⟩ ?_
   clear g q4 q8 Q;rintro k e I G ⟨j,y,hy,hj,rfl,rfl,rfl,g,cX⟩;have fw:j<16:=by omega
   have q4:=g.g4;have q8:=g.g8;have Q:=g.g9;by_cases hley:y<=rm.hi.y-bp.hi.y
   ·have ly:an .leq (.int .i64 y) (.int .i64 (rm.hi.y-bp.hi.y))=some (.bool true):=fq hley;have ay:an .add (.int .i64 y) (.int .i64 1)=some (.int .i64 (y+1)):=jM (bO (by omega) (by omega));have my:=FE hy hley;have fy:=yK (rm.lo.y-bp.lo.y) j (wC a p rm bp t z) hy;have hJ:wC a p rm bp t z y=(zr (rm.lo.x-bp.lo.x) (rm.hi.x-bp.hi.x)).flatMap (ze a p bp t z y):=rfl;generalize hDy:Dz++(zrN (rm.lo.y-bp.lo.y) j).flatMap (wC a p rm bp t z)=Dy at*;refine Y26 ?_
    refine cT (λk e I c=>∃(i:Nat) (x:Int),x=rm.lo.x-bp.lo.x+(i:Nat)/\(i=0∨x<=rm.hi.x-bp.hi.x+1)/\16-i=k/\e=[(0, .func (.yield l) #[] #[]),(1, .pointer (some ⟨qa,0,none⟩)),(2, .pointer (some ⟨qb,0,none⟩)),(4, .pointer (some ⟨h.next,0,none⟩)),(6, .int .i64 (t:Nat)),(7, .pointer (some ⟨q,0,none⟩)),(8, .pointer (some ⟨q+1,0,none⟩)),(9, .pointer (some ⟨q+1+1,0,none⟩)),(10, .int .i64 z),(11, .int .i64 y),(12, .int .i64 x),(28, .int .i64 (t:Nat))]/\I=[]/\FxL P W lo h q0 q rm bp p (Dy++(zrN (rm.lo.x-bp.lo.x) i).flatMap (ze a p bp t z y)) c∧(Dy++(zrN (rm.lo.x-bp.lo.x) i).flatMap (ze a p bp t z y)).length<=t*4096+n*256+j*16+i)
     ⟨0,_,by simp, .inl rfl,rfl,rfl,rfl,by rw[show zrN (rm.lo.x-bp.lo.x) 0=[]from rfl,zt,oC];exact g,by rw[show zrN (rm.lo.x-bp.lo.x) 0=[]from rfl,zt,oC];exact gd cX (by omega)⟩ ?_
    clear g q4 q8 Q;rintro k e I G ⟨i,x,hx,hi,rfl,rfl,rfl,g,cP⟩;have fp:i<16:=by omega
    have q4:=g.g4;have Q:=g.g9;by_cases hlex:x<=rm.hi.x-bp.hi.x
    ·have lx:an .leq (.int .i64 x) (.int .i64 (rm.hi.x-bp.hi.x))=some (.bool true):=fq hlex;have ax:an .add (.int .i64 x) (.int .i64 1)=some (.int .i64 (x+1)):=jM (bO (by omega) (by omega));have fb:=FE hx hlex;have fx:=yK (rm.lo.x-bp.lo.x) i (ze a p bp t z y) hx;have WG:=g.k.wf hr.wf;have hZ:=g.k.next
     have i0:=g.nx;have q7:=g.g7;have ka:=Pt (b:=bp) m;have kl:=Mj (b:=bp) m;have C3:=HH F.li (h:={G with log:=[]}) (.of WG) m (b:=bp) (x:=x) (y:=y) (z:=z) (by omega) (by omega) (by omega) fd fg (by omega) (by omega);have Z:IsS (pO p bp x y z):=tc m _ _ _ _;have o:ze a p bp t z y x=if sIn (pO p bp x y z) a then [⟨t,x,y,z,pO p bp x y z⟩]else []:=rfl
     have f0:sIn (pO p bp x y z) a=true->(⟨t,x,y,z,pO p bp x y z⟩:Fi)∈kU a b:=λJ=>by
      refine K _ (List.mem_flatMap.2 ⟨z,mz,List.mem_flatMap.2 ⟨y,my,List.mem_flatMap.2 ⟨x,fb,?_⟩⟩⟩);rw[o,if_pos J];exact List.mem_singleton.2 rfl
     generalize hDx:Dy++(zrN (rm.lo.x-bp.lo.x) i).flatMap (ze a p bp t z y)=Dx at*;generalize pO p bp x y z=ls at*;have ix:=cS Z.len;have io:=bR Z.len;have ip:=dQ ls;have ge:(us ls).length=8:=by rw[aK,Z.len]
     refine Y16 ?_;refine cI (E0:=[(0, .func (.yield l) #[] #[]),(1, .pointer (some ⟨qa,0,none⟩)),(2, .pointer (some ⟨qb,0,none⟩)),(4, .pointer (some ⟨h.next,0,none⟩)),(6, .int .i64 (t:Nat)),(7, .pointer (some ⟨q,0,none⟩)),(8, .pointer (some ⟨q+1,0,none⟩)),(9, .pointer (some ⟨q+1+1,0,none⟩)),(10, .int .i64 z),(11, .int .i64 y),(12, .int .i64 x),(13, .pointer (some ⟨G.next,0,none⟩)),(28, .int .i64 (t:Nat))]) (P:=λc=>Ext G c∧c.next=G.next+1/\c.get G.next=some (.cells (us ls) true 1)) ?_ ?_
     ·refine Y6 ?_;refine FW.pu C3 ?_;refine aG (uG) ?_;refine aG (dg (by exact rfl) (by exact rfl) YG (by assumption) (by exact rfl) (by exact dQ _)) ?_;refine bH ?_;refine y1 ?_;exact⟨rfl,rfl,rfl,fK (by omega) _ _,rfl,gY _ _⟩
     clear C3 q4 Q q7;rintro G' ⟨x',n',gg⟩;have aE:=g.ext Y x' (by omega) ae cY;have ci:=aE.pd;have bo:=x'.wf WG;have gA:=ga _ _ ci;have C4:=Ex hp F.f35 F.f121 (h:={G' with log:=[]}) (.of bo) Z ha;refine Y4 ?_;refine FW.pu C4 ?_;clear C4;cases J:sIn ls a with
     |false=>
      rw[J,if_neg (by simp)]at o;refine Y21 ?_;refine⟨16-(i+1),by omega,i+1,x+1,by omega, .inr (by omega),rfl,rfl,rfl,?_,?_⟩
      ·rw[fx,o,oC,hDx];exact aE
      ·rw[fx,o,oC,hDx];omega
     |true=>
      rw[J,if_pos rfl]at o;refine Y16 ?_;refine mX (fn:= .yield l) (args:=fiV ⟨t,x,y,z,ls⟩) (by rfl) ?_;refine Y.call hp (f0 J) (by omega) bo (by omega) (by omega) ae ci ?_;intro h2 eh dC dv eI f8;refine Y13 ?_;refine⟨16-(i+1),by omega,i+1,x+1,by omega, .inr (by omega),rfl,rfl,rfl,?_,?_⟩
      ·rw[fx,o,←List.append_assoc,hDx];exact aE.step eh dC dv eI f8 cY
      ·rw[fx,o,←List.append_assoc,hDx];have:=Hs (L:=([]:List Nat)) cP (f:=⟨t,x,y,z,ls⟩);omega
    ·have lx:an .leq (.int .i64 x) (.int .i64 (rm.hi.x-bp.hi.x))=some (.bool false):=eS (by omega);have e9:=Bv (lo:=rm.lo.x-bp.lo.x) (hi:=rm.hi.x-bp.hi.x) (n:=i) (by omega) (by omega);have e:(zrN (rm.lo.x-bp.lo.x) i).flatMap (ze a p bp t z y)=wC a p rm bp t z y:=by rw[e9];rfl
     rw[e]at g cP;refine Y23 ?_;refine⟨16-(j+1),by omega,j+1,y+1,by omega, .inr (by omega),rfl,rfl,rfl,?_,?_⟩
     ·rw[fy,←List.append_assoc,hDy];exact g
     ·rw[fy,←List.append_assoc,hDy];omega
   ·have ly:an .leq (.int .i64 y) (.int .i64 (rm.hi.y-bp.hi.y))=some (.bool false):=eS (by omega);have eg:=Bv (lo:=rm.lo.y-bp.lo.y) (hi:=rm.hi.y-bp.hi.y) (n:=j) (by omega) (by omega);refine Y23 ?_;refine⟨16-(n+1),by omega,n+1,z+1,by omega, .inr (by omega),rfl,rfl,rfl,?_⟩;rw[fz,←List.append_assoc];have e:(zrN (rm.lo.y-bp.lo.y) j).flatMap (wC a p rm bp t z)=AG a p rm bp t z:=by rw[eg];rfl
    rw[e]at g cX;rw[hDz];exact⟨g,by omega⟩
  ·have lz:an .leq (.int .i64 z) (.int .i64 (rm.hi.z-bp.hi.z))=some (.bool false):=eS (by omega);have f7:=Bv (lo:=rm.lo.z-bp.lo.z) (hi:=rm.hi.z-bp.hi.z) (n:=n) (by omega) (by omega);have q4:=g.g4;have Q:=g.g9;refine Y22 ?_;rw[f7]at g ba;have C:FxL P W lo h q0 q rm bp p ((List.range (t+1)).flatMap (rH a b)) G:=by rw[hT];exact g
   have eJ:((List.range (t+1)).flatMap (rH a b)).length<=(t+1)*4096:=by
    rw[hT];exact gd ba (by omega)
   exact⟨24-(t+1),by omega,t+1,by omega,rfl,rfl,rfl,C.k,C.pd,by have:=C.nx;omega,C.g4,C.dm,C.w4,eJ⟩
 ·obtain rfl:t=24:=by omega
  rw[←hf]at U V;refine Y9 ?_;exact CA (hk.log (by rw[hr.log];exact eR.nil _)) rfl ⟨rfl,U,V⟩
def AB(a b:Nat):Int:=if a<b then -1 else if b<a then 1 else 0
def cmpL:List Nat->List Nat->Int
 |a::l,b::m=>if a<b then -1 else if b<a then 1 else cmpL l m
 |_,_=>0
theorem tU:∀l:List Nat,cmpL l l=0
 |[]=>rfl
 |a::l=>by
  unfold cmpL;rw[if_neg (pp a),if_neg (pp a)];exact tU l
theorem F0:∀{l m:List Nat} {j x y:Nat},l.take j=m.take j->l[j]? =some x->m[j]? =some y->x≠y->cmpL l m=AB x y
 |[],_,j,x,y,_,h,_,_=>by simp at h
 |_::_,[],j,x,y,_,_,h,_=>by simp at h
 |a::l,b::m,0,x,y,_,h1,h2,h=>by
  simp at h1 h2;subst h1;subst h2;unfold cmpL AB;by_cases q:a<b
  ·rw[if_pos q,if_pos q]
  ·rw[if_neg q,if_neg q,if_pos (by omega),if_pos (by omega)]
 |a::l,b::m,j+1,x,y,ht,h1,h2,h=>by
  simp only[xl,List.cons.injEq]at ht;obtain⟨rfl,ht⟩:=ht;unfold cmpL;rw[if_neg (pp a),if_neg (pp a)];exact F0 ht (by simpa using h1) (by simpa using h2) h
structure zg (T:Nat->Option aq):Prop where
 p:aF T
 f191:T 86=some f191
 f256:T 114=some f256
 f315:T 134=some f315
theorem Lu(F:zg T)(hr:Rdy h)(x:Nat):Pu T 134 [.int .u64 (x:Nat)] h (.bool false):=by
 refine .of F.p F.f315 hr rfl ?_;have a:an .neq (.int .u64 (x:Nat)) (.int .u64 (x:Nat))=some (.bool false):=by rw[Gf];simp
 refine Y10 ?_;exact au hr.log rfl rfl
theorem RM(F:zg T)(hr:Rdy h)(a b:Nat):Pu T 114 [.int .u64 (a:Nat), .int .u64 (b:Nat)] h (.int .i64 (AB a b)):=by
 refine .of F.p F.f256 hr rfl ?_;have c:=Lu F (h:={h with log:=[]}) (.of hr.wf) a;have d:=Lu F (h:={h with log:=[]}) (.of hr.wf) b;have e:=hr.log;unfold AB;by_cases h1:a<b
 ·rw[if_pos h1];have f:an .lss (.int .u64 (a:Nat)) (.int .u64 (b:Nat))=some (.bool true):=dY (by omega);refine Y6 ?_;refine FW.pu c ?_;refine Y5 ?_;refine FW.pu d ?_;refine Y28 ?_;exact au e rfl rfl
 ·rw[if_neg h1];have f:an .lss (.int .u64 (a:Nat)) (.int .u64 (b:Nat))=some (.bool false):=eM (by omega);by_cases h2:b<a
  ·rw[if_pos h2];have g:an .gtr (.int .u64 (a:Nat)) (.int .u64 (b:Nat))=some (.bool true):=fM (by omega);refine Y6 ?_;refine FW.pu c ?_;refine Y5 ?_;refine FW.pu d ?_;refine Y37 ?_;exact au e rfl rfl
  ·rw[if_neg h2];have g:an .gtr (.int .u64 (a:Nat)) (.int .u64 (b:Nat))=some (.bool false):=gZ (by omega);refine Y6 ?_;refine FW.pu c ?_;refine Y5 ?_;refine FW.pu d ?_;refine Y38 ?_;exact au e rfl rfl
theorem wh(F:zg T)(hr:Rdy h){p q c c2:Nat}(r:IsS a)(hb:IsS b)(z:h.get p=some (.cells (us a) true 1))(A:h.get q=some (.cells (us b) true 1)):
 Pu T 86 [.slice (some ⟨p,0,none⟩) 8 c, .slice (some ⟨q,0,none⟩) 8 c2] h (.int .i64 (cmpL a b)):=by
 refine .of F.p F.f191 hr rfl ?_;have o:=hr.log;refine Y10 ?_
 refine cT (λm e l n=>∃j:Nat,j<=8/\8-j=m/\e=[(0, .slice (some ⟨p,0,none⟩) 8 c),(1, .slice (some ⟨q,0,none⟩) 8 c2),(9, .slice (some ⟨p,0,none⟩) 8 c),(10, .int .i64 8),(11, .int .i64 (j:Nat))]/\l=[]/\h=n∧a.take j=b.take j)
  ⟨0,md _,rfl,rfl,rfl,rfl,rfl⟩ ?_
 rintro m e l n ⟨j,B,rfl,rfl,rfl,rfl,d⟩;by_cases hlt:j<8
 ·obtain⟨x,i⟩:∃x,a[j]? =some x:=⟨a[j]'(by rw[r.len];exact hlt),bx _⟩;obtain⟨y,k⟩:∃x,b[j]? =some x:=⟨b[j]'(by rw[hb.len];exact hlt),bx _⟩;have v:=nw i;have w:=nw k;have C:=RM F (h:={h with log:=[]}) (.of hr.wf) x y;have t:an .lss (.int .i64 (j:Nat)) (.int .i64 8)=some (.bool true):=dY (by omega);have D:an .geq (.int .i64 (j:Nat)) (.int .i64 8)=some (.bool false):=ue (by omega);by_cases hxy:x=y
  ·have f:AB x y=0:=by subst hxy;unfold AB;rw[if_neg (pp x),if_neg (pp x)]
   rw[f]at C;have u:an .neq (.int .i64 0) (.int .i64 0)=some (.bool false):=rfl;refine Y37 ?_;refine FW.pu C ?_;refine Y14 ?_;refine⟨8-(j+1),by omega,j+1,by omega,rfl,rfl,rfl,rfl,?_⟩;rw[BT,BT,d,i,k,hxy]
  ·have f:AB x y≠0:=by
    unfold AB;split
    ·decide
    ·rw[if_pos (by omega)];decide
   have s:=F0 d i k hxy;have u:an .neq (.int .i64 (AB x y)) (.int .i64 0)=some (.bool true):=jc f;rw[s];refine Y37 ?_;refine FW.pu C ?_;refine Y17 ?_;exact au o rfl rfl
 ·obtain rfl:j=8:=by omega
  have g:a=b:=by
   rw[gk (by rw[r.len];omega),gk (by rw[hb.len];omega)]at d;exact d
  rw[g,tU];have t:an .lss (.int .i64 ((8:Nat):Int)) (.int .i64 8)=some (.bool false):=rfl;refine Y25 ?_;exact au o rfl rfl
theorem OG(F:zg T)(m:T 111=some f168)(hr:Rdy h)(l:IsS a)(hb:IsS b):Pu T 111 [sv a,sv b] h (.int .i64 (cmpL a b)):=by
 refine .of F.p m hr rfl ?_;have e:Ext h ((h.push (.cells (cellsOf (sv a)) true 1)).push (.cells (cellsOf (sv b)) true 1)):=((Ext.refl h).push _).push _;have f:((h.push (.cells (cellsOf (sv a)) true 1)).push (.cells (cellsOf (sv b)) true 1)).get h.next=some (.cells (us a) true 1):=YG
 have g:((h.push (.cells (cellsOf (sv a)) true 1)).push (.cells (cellsOf (sv b)) true 1)).get (h.next+1)=some (.cells (us b) true 1):=YG;refine Y5 ?_;generalize((h.push (.cells (cellsOf (sv a)) true 1)).push (.cells (cellsOf (sv b)) true 1))=H at*;have W:=e.wf hr.wf;have k:=e.log.trans hr.log;have C:=λc d=>wh F (h:={H with log:=[]}) (.of W) (c:=c) (c2:=d) l hb f g;refine Y2 ?_;refine aO rfl rfl rfl (by exact rfl) (by exact rfl) (by exact rfl) (j0 (i:=0) (j:=8) (by exact rfl) (by exact rfl) (by exact rfl) (by omega) (by omega) (by omega) (by omega)) ?_;refine aO rfl rfl rfl (by exact rfl) (by exact rfl) (by exact rfl) (j0 (i:=0) (j:=8) (by exact rfl) (by exact rfl) (by exact rfl) (by omega) (by omega) (by omega) (by omega)) ?_;skip;refine qC ?_;refine FW.puD (C _ _) (by(repeat apply aC rfl);exact aY) ?_;refine Y5 ?_;exact au k rfl rfl
theorem OH(F:zg T)(m:T 85=some f190)(hr:Rdy h)(l:IsS a)(hb:IsS b):Pu T 85 [sv a,sv b] h (.int .i64 (cmpL a b)):=by
 refine .of F.p m hr rfl ?_;have e:Ext h ((h.push (.cells (cellsOf (sv a)) true 1)).push (.cells (cellsOf (sv b)) true 1)):=((Ext.refl h).push _).push _;have f:((h.push (.cells (cellsOf (sv a)) true 1)).push (.cells (cellsOf (sv b)) true 1)).get h.next=some (.cells (us a) true 1):=YG
 have g:((h.push (.cells (cellsOf (sv a)) true 1)).push (.cells (cellsOf (sv b)) true 1)).get (h.next+1)=some (.cells (us b) true 1):=YG;refine Y5 ?_;generalize((h.push (.cells (cellsOf (sv a)) true 1)).push (.cells (cellsOf (sv b)) true 1))=H at*;have W:=e.wf hr.wf;have k:=e.log.trans hr.log;have C:=λc d=>wh F (h:={H with log:=[]}) (.of W) (c:=c) (c2:=d) l hb f g;refine Y2 ?_;refine aO rfl rfl rfl (by exact rfl) (by exact rfl) (by exact rfl) (j0 (i:=0) (j:=8) (by exact rfl) (by exact rfl) (by exact rfl) (by omega) (by omega) (by omega) (by omega)) ?_;refine aO rfl rfl rfl (by exact rfl) (by exact rfl) (by exact rfl) (j0 (i:=0) (j:=8) (by exact rfl) (by exact rfl) (by exact rfl) (by omega) (by omega) (by omega) (by omega)) ?_;skip;refine qC ?_;refine FW.puD (C _ _) (by(repeat apply aC rfl);exact aY) ?_;refine Y5 ?_;exact au k rfl rfl
end Go.A.Pk
end
section
namespace Go.A.Pk
variable {T:Nat->Option aq}
def fnF(p q:Nat):Value:= .func (.func 105) #[] #[.pointer (some ⟨p,0,none⟩), .pointer (some ⟨q,0,none⟩)]
structure QU (T:Nat->Option aq):Prop where
 ft:QV T
 f34:T 53=some f34
 f120:T 81=some f120
theorem Oq(F:QU T){h:Heap}(hr:Rdy h){a b:List Nat}(e:IsS a)(hb:IsS b):
 Al T 81 [sv a,sv b] h λv h'=>∃p q,v=fnF p q/\h'.get p=some (.cells (us a) true 1)/\h'.get q=some (.cells (us b) true 1)/\p<h'.next/\q<h'.next/\h.next<=p/\h.next<=q:=by
 refine .of F.ft.li.p F.f120 hr ?_ ?_
 ·rintro v d c ⟨p,q,rfl,_⟩;cases c
 refine Y10 ?_;exact dG hr.log rfl ⟨h.next,h.next+1,rfl,YG,YG,by show h.next<h.next+2;omega,by show h.next+1<h.next+2;omega,bl _,ti _⟩
section
open I
end
end Go.A.Pk
end
