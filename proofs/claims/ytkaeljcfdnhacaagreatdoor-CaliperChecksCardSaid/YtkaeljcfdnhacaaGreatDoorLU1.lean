/- Walks of functions, plain laws, the table. -/
import Derived.Test.YtkaeljcfdnhacaaGreatDoorLU0
import Derived.Test.YtkaeljcfdnhacaaGreatDoorLD
import Derived.Test.YtkaeljcfdnhacaaGreatDoorLV
import Derived.Test.YtkaeljcfdnhacaaGreatDoorLF
set_option linter.all false
set_option maxHeartbeats 16000000
set_option maxRecDepth 100000
section
namespace Go.A.Pk
variable {T:Nat->Option an}
def ints(l:List Int):List Value:=l.map λx=> .int .i64 x
theorem vZ(l:List Int):(ints l).length=l.length:=by simp[ints]
structure Td (T:Nat->Option an):Prop where
 p:aM T
 f171:T 79=some f171
 f225:T 111=some f225
variable{h:Heap}{s:List Nat}
theorem Ub(F:Td T)(hr:Rdy h)(e:IsS s)(c:Ce):Pu T 79 [sv s,ceV c] h (.bool (eO s c)):=by
 refine .of F.p F.f171 hr rfl ?_;have W:=(hr.wf.push (qt (cellsOf (sv s)))).push (qt (cellsOf (ceV c)));have C:=AR F.p F.f225 (.of W) c;by_cases a:inG c=true
 ·obtain⟨z,i,f,d,rfl⟩:=iJ a;rw[a]at C;rw[fM f d,←QJ];have g:=jc (lu (s:=s) (i:=z) (by rw[e.len];exact f));have j:=uE (e.lB z) (uO d);have l:af .neq (.int .u64 ((Nat.land (s.getD z 0) (2 ^ i):Nat):Int)) (.int .u64 0)=some (.bool (decide (Nat.land (s.getD z 0) (2 ^ i)≠0))):=by
   rw[Ie];by_cases q:Nat.land (s.getD z 0) (2 ^ i)=0
   ·rw[q];rfl
   ·rw[decide_eq_true q];have:((Nat.land (s.getD z 0) (2 ^ i):Nat):Int)≠0:=by omega
    simp only[bne,beq_eq_false_iff_ne.2 this];rfl
  have m:vx 8 ((eX z i).y) (8*((i / 8:Nat):Int)):=AV (b:=((i / 8:Nat):Int)) (by omega) (by omega);have n:zE (8*((i / 8:Nat):Int)) ((eX z i).x) ((i:Nat):Int):=gI (b:=((i % 8:Nat):Int)) (by rw[aU]<;>omega);have o:=Gh (k:= .u64) d;have r:fZ .u64 ((i:Nat):Int)=((i:Nat):Int):=oJ (by omega);refine Y9 ?_;refine FW.puD C (by apply aC rfl;exact aQ) ?_;clear C;refine Y4 ?_;refine qZ9 (b:=dV (by rfl) YG (by assumption)) (H:=?_);refine Y6 ?_;refine qZ9 (b:=xy (by rfl) (by assumption)) (H:=?_);refine Y9 ?_;exact ah hr.log rfl rfl
 ·have a:inG c=false:=by simpa using a
  rw[a]at C;rw[show eO s c=false by unfold eO;rw[a];rfl];refine Y9 ?_;refine FW.puD C (by apply aC rfl;exact aQ) ?_;clear C;refine Y21 ?_;exact ah hr.log rfl rfl
def ceN(n:Nat):Ce:=⟨(n % 8:Nat),(n / 8 % 8:Nat),(n / 64:Nat)⟩
def ceS(l:List Ce):List Value:=l.flatMap ceL
theorem Qb(a b:List Ce):ceS (a++b)=ceS a++ceS b:=by simp[ceS]
def aX(s:List Nat)(n:Nat):List Ce:=((List.range n).map ceN).filter (eO s)
theorem uj(s:List Nat)(n:Nat):aX s (n+1)=aX s n++(if eO s (ceN n)then [ceN n]else []):=by
 unfold aX;rw[PH,wx,Ix];congr 1;simp only[wp,List.map_nil,In,List.filter_nil]
theorem iW(s:List Nat)(n:Nat):(aX s n).length<=n:=by
 unfold aX;exact ed (PP ..) (by simp)
structure Hs (T:Nat->Option an):Prop where
 hr:Td T
 f170:T 46=some f170
theorem ug(F:Hs T)(hr:Rdy h)(t:IsS s):Al T 46 [sv s] h λv c=>Own h.next c 3 v (aX s 512).length (ceS (aX s 512)):=by
 refine .of F.hr.p F.f170 hr ?_ ?_
 ·intro v h1 O q;generalize(aX s 512).length=m at q⊢;generalize ceS (aX s 512)=cs at q⊢;cases q with
  |nil=>exact .nil
  |full=>cases O
 have k8:=aL t.len;have k9:=aV t.len;have L:(h.push (qt (cellsOf (sv s)))).get h.next=some (qt (us s)):=z3 h _
 have Z:Ext h (h.push (qt (cellsOf (sv s)))):=(Ext.refl h).push _;have n0:(h.push (qt (cellsOf (sv s)))).next=h.next+1:=rfl
 refine Y4 ?_;generalize(h.push (qt (cellsOf (sv s))))=H at*;refine Y8 ?_;let J:=λ(n:Nat) (v:Value) (c:Heap)=>Ext h c∧h.next<c.next/\c.get h.next=some (qt (us s))/\Own (h.next+1) c 3 v (aX s n).length (ceS (aX s n))
 refine bg (λm e g c=>∃(z:Nat) (v:Value),z<=8/\m=8-z/\e=[(1, .pointer (some ⟨h.next,0,none⟩)),(3,v),(4, .int .i64 (z:Nat))]/\g=[]/\J (z*64) v c)
  ⟨0,_,by omega,rfl,rfl,rfl,Z,by omega,L, .nil⟩ ?_
 rintro m e g H1 ⟨z,v,U,rfl,rfl,rfl,u⟩;by_cases hz:z<8
 ·refine Y14 ?_
  refine bg (λm e g c=>∃(y:Nat) (v:Value),y<=8/\m=8-y/\e=[(1, .pointer (some ⟨h.next,0,none⟩)),(3,v),(4, .int .i64 (z:Nat)),(5, .int .i64 (y:Nat))]/\g=[]/\J (z*64+y*8) v c)
   ⟨0,v,by omega,rfl,rfl,rfl,u⟩ ?_
  rintro m e g H2 ⟨y,v,S,rfl,rfl,rfl,A⟩;clear u;by_cases hy:y<8
  ·refine Y14 ?_
   refine bg (λm e g c=>∃(x:Nat) (v:Value),x<=8/\m=8-x/\e=[(1, .pointer (some ⟨h.next,0,none⟩)),(3,v),(4, .int .i64 (z:Nat)),(5, .int .i64 (y:Nat)),(6, .int .i64 (x:Nat))]/\g=[]/\J (z*64+y*8+x) v c)
    ⟨0,v,by omega,rfl,rfl,rfl,A⟩ ?_
   rintro m e g j ⟨x,v,Q,rfl,rfl,rfl,G⟩;clear A;by_cases hx:x<8
   ·obtain⟨x3,V,D,o⟩:=G;refine Y10 ?_;refine dw (E0:=[(1, sb h.next),(3,v),(4, zc (z:Nat)),(5, zc (y:Nat)),(6, zc (x:Nat)),(7, sb j.next)]) (P:=λc=>Ext j c∧c.next=j.next+1/\c.get j.next=some (qt (ceL ⟨(x:Nat),(y:Nat),(z:Nat)⟩))) ?_ ?_
    ·refine Y7 ?_;refine bH ?_;refine y1 ?_;exact⟨rfl,rfl,rfl,dX (by omega) _ _,rfl,fU _ _⟩
    rintro k ⟨B,n4,g4⟩;have r:ceN (z*64+y*8+x)=⟨(x:Nat),(y:Nat),(z:Nat)⟩:=by
     unfold ceN;rw[show(z*64+y*8+x) % 8=x by omega,show(z*64+y*8+x) / 8 % 8=y by omega,show(z*64+y*8+x) / 64=z by omega]
    have f:=uj s (z*64+y*8+x);rw[r]at f;have N:=iW s (z*64+y*8+x);have a:=x3.trans B;have I:=a.wf hr.wf;have E:=(B.old _ V).trans D;have i:=o.ext B;generalize hce2:(⟨(x:Nat),(y:Nat),(z:Nat)⟩:Ce)=ce at*;have C:=Ub F.hr (.of I) t ce;have ck:bO 3 (bK 0 (ceL ce))=ceL ce:=rfl;have K:Nat.beq (bM (ceL ce)) 3=true:=rfl;clear D o;refine Y4 ?_;refine FW.pu C ?_;clear C;cases l:eO s ce with
    |false=>
     rw[l,if_neg (by simp),md]at f;refine Y10 ?_;refine⟨8-(x+1),by omega,x+1,v,by omega,rfl,rfl,rfl,a,by omega,E,?_⟩;show Own _ _ _ _ (aX s (z*64+y*8+x+1)).length (ceS (aX s (z*64+y*8+x+1)));rw[f];exact i
    |true=>
     rw[l,if_pos rfl]at f;refine Y6 ?_;refine uZ (lo:=h.next+1) (sz:=3) (v:=v) (c1:=ceL ce) (i.ext ((Ext.refl k).push _)) (by omega) (by omega) (by omega) (by show h.next+1<=k.next+1;omega) (by omega) (by rfl) (by rfl) (gw (cs:=ceL ce) YG rfl rfl) rfl rfl ?_;intro Y M X x5;have d:Lx (h.next+1) k M:=((Lx.refl (h.next+1) k).push (by omega) _).trans x5;have W:=d.next
     refine yM ?_;refine bH ?_;refine Y8 ?_;refine⟨8-(x+1),by omega,x+1,Y,by omega,rfl,rfl,rfl,⟨ed a.next W,d.log.trans a.log,λb l=>(d.old b (by omega)).trans (a.old b l),λw=>d.wf (a.wf w)⟩,by omega,(d.old _ (by omega)).trans E,?_⟩;show Own _ _ _ _ (aX s (z*64+y*8+x+1)).length (ceS (aX s (z*64+y*8+x+1)));rw[f,eA,Qb];have e:ceS [ce]=ceL ce:=by simp[ceS]
     rw[e];exact X
   ·obtain rfl:x=8:=by omega
    refine Y17 ?_;refine⟨8-(y+1),by omega,y+1,v,by omega,rfl,rfl,rfl,?_⟩;rw[show z*64+(y+1)*8=z*64+y*8+8 by omega];exact G
  ·obtain rfl:y=8:=by omega
   refine Y17 ?_;refine⟨8-(z+1),by omega,z+1,v,by omega,rfl,rfl,rfl,?_⟩;rw[show(z+1)*64=z*64+8*8 by omega];exact A
 ·obtain rfl:z=8:=by omega
  obtain⟨x1,n1,g1,o⟩:=u;refine Y16 ?_;exact dN (x1.log.trans hr.log) rfl (o.low (Hc _))
def tB(s:List Nat)(z:Nat):List Ce:=(bitsOf (s.getD z 0)).map (eX z)
variable{z:Nat}
theorem BH{i:Nat}(hi:i<64):ceN (z*64+i)=eX z i:=by
 unfold ceN eX;rw[show(z*64+i) % 8=i % 8 by omega,show(z*64+i) / 8 % 8=i / 8 by omega,show(z*64+i) / 64=z by omega]
theorem nH(s:List Nat)(c:z<8):aX s ((z+1)*64)=aX s (z*64)++tB s z:=by
 unfold aX tB bitsOf;rw[show(z+1)*64=z*64+64 by omega,List.range_add,wx,Ix];congr 1;rw[List.map_map,List.filter_map];have b:(List.range 64).filter (eO s ∘ (ceN ∘ λx=>z*64+x))=(List.range 64).filter (Nat.testBit (s.getD z 0)):=by
  apply Hm;intro i a;have a:=List.mem_range.1 a;show eO s (ceN (z*64+i))=_;rw[BH a,fM c a]
 rw[b];apply List.map_congr_left;intro i a;have a:=List.mem_range.1 (List.mem_filter.1 a).1;exact BH a
variable{a b:List Nat}
theorem yj{f:Nat->Nat->Nat}(g:IsS a)(hb:IsS b)(c:z<8):(List.zipWith f a b).getD z 0=f (a.getD z 0) (b.getD z 0):=by
 have d:=lu (s:=a) (i:=z) (by rw[g.len];exact c);have e:=lu (s:=b) (i:=z) (by rw[hb.len];exact c);rw[gk,IR,d,e];rfl
variable{c:Ce}
theorem gL(a:¬inG c=true):eO s c=false:=by
 unfold eO;rw[Bool.not_eq_true]at a;rw[a];rfl
theorem vJ(f:IsS a)(hb:IsS b)(c:Ce):eO (gM a b) c=(eO a c||eO b c):=by
 by_cases hc:inG c=true
 ·obtain⟨z,i,d,e,rfl⟩:=iJ hc;rw[fM d e,fM d e,fM d e];unfold gM sF;rw[yj f hb d];exact Nat.testBit_or ..
 ·rw[gL hc,gL hc,gL hc];rfl
theorem Bg(f:IsS a)(hb:IsS b)(c:Ce):eO (eU a b) c=(eO a c&& !eO b c):=by
 by_cases hc:inG c=true
 ·obtain⟨z,i,d,e,rfl⟩:=iJ hc;rw[fM d e,fM d e,fM d e];unfold eU sF;rw[yj f hb d];simp only[vg];show Nat.testBit (a.getD z 0 ^^^ (a.getD z 0&&&b.getD z 0)) i=_;rw[Nat.testBit_xor,K1];cases (a.getD z 0).testBit i<;>cases (b.getD z 0).testBit i<;>rfl
 ·rw[gL hc,gL hc];rfl
theorem nr(c:Ce):eO s0 c=false:=by
 by_cases hc:inG c=true
 ·obtain⟨z,i,a,b,rfl⟩:=iJ hc;rw[fM a b];have:∀z:Fin 8,s0.getD z.val 0=0:=by decide
  rw[this ⟨z,a⟩];exact Nat.zero_testBit i
 ·exact gL hc
theorem Jv{n:Nat}(h:c∈aX s n):eO s c=true:=(List.mem_filter.1 h).2
structure Dou where
 c:Ce
 ids:List Int
 is:Bool
 e:Int
def c0:Ce:=⟨0,0,0⟩
end Go.A.Pk
end
section
namespace Go.A.Pk
variable {T:Nat->Option an}
section
open I
end
variable{h:Heap}
theorem WE.BU{base:Nat}{rnd:Option Nat}{c:aT}{Q:XQ}{e:Env}{a:Dfs}(b:∀hA,hA=h->WE T base rnd c Q e a hA):WE T base rnd c Q e a h:=b h rfl
theorem AJ(s:List Nat){n:Nat}:∀m,∃r,aX s (n+m)=aX s n++r
 |0=>⟨[],by simp⟩
 |m+1=>by
  obtain⟨r,e⟩:=AJ s (n:=n) m;exact⟨r++(if eO s (ceN (n+m))then [ceN (n+m)]else []),by rw[←Nat.add_assoc,uj,e,yn]⟩
structure Hr (T:Nat->Option an):Prop where
 p:aM T
 f123:T 50=some f123
 f213:T 88=some f213
 f214:T 89=some f214
 f264:T 116=some f264
 f265:T 117=some f265
 f266:T 118=some f266
structure PCe (l q:Nat) (H0:Heap) (L:bR) (done:List Ce) (H:Heap):Prop where
 old:∀z,z<q->H.get z=H0.get z
 loop:H.get l=some L
 nx:l<H.next
 val:∃v,H.get q=some (qt [v])/\Own (l+1) H 3 v done.length (ceS done)
def fnC(q0:Nat):Value:= .func (.func 117) #[] #[.pointer (some ⟨q0,0,none⟩)]
variable{s:List Nat}
theorem DQ(F:Hr T)(hr:Rdy h)(c:IsS s):
 Al T 89 [sv s] h λv h'=>∃q,v=fnC q/\h'.get q=some (qt (us s))/\h.next<=q/\q<h'.next:=by
 refine .of F.p F.f214 hr ?_ ?_
 ·rintro v b a ⟨q,rfl,_⟩;cases a
 refine Y9 ?_;exact dN hr.log rfl ⟨h.next,rfl,z3 _ _,bl _,ec _⟩
theorem AH(F:Hr T)(hr:Rdy h){q0 l N lo:Nat}(G:IsS s){P:List Ce->Heap->Prop}{S:Heap->Prop}(X:N<=h.next)(B:lo<=h.next)(a7:l<N)(Y:KT T lo N l ceV (aX s 512) P S)
 (g0:h.get q0=some (qt (us s)))(D:∀d H,P d H->Tab H)(h0:P [] h):
 GrX T 117 [.func (.yield l) #[] #[], .pointer (some ⟨q0,0,none⟩)] h lo (P (aX s 512)) S:=by
 have A:l<h.next:=by omega
 have hp:=F.p;have k8:=aL G.len;have k9:=aV G.len;refine GrX.of (l:=l) hp F.f265 B A (λh1 h2 hn ha q=>Y.gu _ _ _ q (ed X hn) λx I=>ha x (by omega)) Y.IA ?_;refine Y5 ?_
 refine bg (λk e w t=>∃z:Nat,z<=8/\8-z=k/\e=[(0, .func (.yield l) #[] #[]),(6,sv s),(7, .int .i64 (z:Nat))]/\w=[]/\Lk lo h t∧P (aX s (z*64)) t)
  ⟨0,by omega,rfl,rfl,rfl, .refl _ _,h0⟩ ?_
 rintro k e w t ⟨z,a8,rfl,rfl,rfl,g,j⟩;by_cases hz:z<8
 ·have e1:bN (us s).toArray.toList (z*1)=some (.int .u64 ((s.getD z 0:Nat):Int)):=by
   rw[HR,xf,bW];unfold us;rw[xc,lu (by rw[G.len];exact hz)];rfl
  have W:=G.lB z;obtain⟨E,u⟩:∃r,aX s 512=aX s (z*64)++tB s z++r:=by
   obtain⟨r,e⟩:=AJ s (n:=(z+1)*64) (512-(z+1)*64);rw[show(z+1)*64+(512-(z+1)*64)=512 by omega,nH s hz]at e;exact⟨r,e⟩
  have i:=nH s hz;have U:tB s z=(bitsOf (s.getD z 0)).map (eX z):=rfl;generalize I:s.getD z 0=x0 at*;generalize tB s z=pl at*;refine Y11 ?_;refine aF (FP (by rfl) (by rfl) (by omega) (by assumption)) ?_;refine Y4 ?_
  refine bg (λk e w y=>∃(x:Nat) (d:List Ce),x<U64/\d++(bitsOf x).map (eX z)=pl/\(bitsOf x).length=k/\e=[(0, .func (.yield l) #[] #[]),(3, .int .i64 (z:Nat)),(4, .int .u64 (x:Nat)),(6,sv s),(7, .int .i64 (z:Nat))]/\w=[]/\Lk lo h y∧P (aX s (z*64)++d) y)
   ⟨x0,[],W,by rw[U];rfl,rfl,rfl,rfl,g,by rw[md];exact j⟩ ?_
  clear j g t;rintro k e w t ⟨x,d,f,o,rfl,rfl,rfl,g,j⟩;by_cases I:x=0
  ·subst I;rw[DJ]at o;have o:d=pl:=by simpa using o
   subst o;rw[←i]at j;refine Y16 ?_;exact⟨8-(z+1),by omega,z+1,by omega,rfl,rfl,rfl,g,j⟩
  ·obtain⟨b,m,c⟩:=EN x I;have Z:=(Ca c f).1;have v:=DI c f;have m1:af .neq (.int .u64 (x:Nat)) (.int .u64 0)=some (.bool true):=jr (by omega);have C:=YA F.p F.f266 (h:={t with log:=[]}) (.of (g.wf hr.wf)) (show Tab t from D _ _ j) f c;have m2:af .rem (.int .i64 (b:Nat)) (.int .i64 8)=some (.int .i64 ((b % 8:Nat):Int)):=Uo;have m3:af .quo (.int .i64 (b:Nat)) (.int .i64 8)=some (.int .i64 ((b / 8:Nat):Int)):=Un (by omega);have m4:af .sub (.int .u64 (x:Nat)) (.int .u64 1)=some (.int .u64 ((x-1:Nat):Int)):=kg (by rw[show(x:Int)-1=((x-1:Nat):Int)by omega];exact oJ (by unfold U64 at f;omega));have m5:=uE (a:=x) (b:=x-1) f (xi (Nat.sub_le x 1) f);rw[v]at o⊢;have O:Nat.land x (x-1)<U64:=B4 f;generalize Nat.land x (x-1)=x' at*;rw[wp]at o;have V:aX s 512=(aX s (z*64)++d)++eX z b::((bitsOf x').map (eX z)++E):=by
    rw[u,←o];simp
   refine Y13 ?_;refine FW.pu C ?_;clear C;refine Y10 ?_;refine pQ (fn:= .yield l) (args:=[ceV (eX z b)]) (by rfl) ?_;refine Y.call hp (by rw[V];simp) (g.wf hr.wf) (ed B g.next) (ed X g.next) A j ?_ ?_
   rotate_left
   ·intro h9 M Q K;refine Y12 ?_;exact LV ((g.trans M).log (by rw[hr.log];exact fF.nil _)) rfl Q K
   intro h2 L _ J;refine Y13 ?_;exact⟨(bitsOf x').length,by simp,x',d++[eX z b],O,by rw[←o];simp,rfl,rfl,rfl,g.trans L,by rw[←List.append_assoc];exact J⟩
 ·obtain rfl:z=8:=by omega
  refine Y9 ?_;exact LU (g.log (by rw[hr.log];exact fF.nil _)) rfl j
end Go.A.Pk
end
section
namespace Go.A.Pk
variable {T:Nat->Option an}
structure Bx where
 lo:Ce
 hi:Ce
 deriving DecidableEq
def bxL(b:Bx):List Value:=ceL b.lo++ceL b.hi
def bxV(b:Bx):Value:= .agg (bxL b).toArray
def p8(b:Bx)(c:Ce):Bx:=⟨⟨mi b.lo.x c.x,mi b.lo.y c.y,mi b.lo.z c.z⟩,⟨mx b.hi.x c.x,mx b.hi.y c.y,mx b.hi.z c.z⟩⟩
def bx0:Bx:=⟨⟨7,7,7⟩,⟨0,0,0⟩⟩
def bxS(l:List Ce):Bx:=l.foldl p8 bx0
theorem Lr(l:List Ce)(c:Ce):bxS (l++[c])=p8 (bxS l) c:=by unfold bxS;rw[D4];rfl
section
open I
def xF:aT:=I.R [g 5 (.new [O,O,O]),S 3 5 16] [4,5]
def xJ:aT:=(.block 1 (Q (I.R [A 17 0 4,A 18 3 4,M 6 17,M 7 18] [5,6,7]) (Q (.draw [M 19 6,M 20 6,M 21 6,M 22 6,g 23 (.cM (t 22)),A 24 0 23,L 25 24,A 26 0 5,L 27 26,g 28 (.eF false [(t 25),(t 27)]),M 29 6,g 30 (.cM (t 29)),A 31 1 30,L 32 31,A 33 1 5,L 34 33,g 35 (.eF false [(t 32),(t 34)]),M 36 6,g 37 (.cM (t 36)),A 38 2 37,L 39 38,A 40 2 5,L 41 40,g 42 (.eF false [(t 39),(t 41)]),g 43 (.cM (t 19)),A 44 0 43,S 1 44 28,g 45 (.cM (t 20)),A 46 1 45,S 1 46 35,g 47 (.cM (t 21)),A 48 2 47,S 1 48 42] [0,1,2,3,4,5,6,7,8,9,10,11,12,13,14,15,16,17,18,19,20,21,22,23,24,25,26,27,28,29,30,31,32] [0,0,0,0,8,24,56,0,128,504,0,1024,3072,7168,0,16384,64512,0,131072,393216,917504,0,2097152,8257536,1982457,18759673,52314105,119537659,253755387,522190843,1073741823,2147483647,4294967295] [5,7])
 (.draw [M 49 7,M 50 7,M 51 7,M 52 7,g 53 (.cM (t 52)),A 54 0 53,L 55 54,A 56 0 5,L 57 56,g 58 (.eF true [(t 55),(t 57)]),M 59 7,g 60 (.cM (t 59)),A 61 1 60,L 62 61,A 63 1 5,L 64 63,g 65 (.eF true [(t 62),(t 64)]),M 66 7,g 67 (.cM (t 66)),A 68 2 67,L 69 68,A 70 2 5,L 71 70,g 72 (.eF true [(t 69),(t 71)]),g 73 (.cM (t 49)),A 74 0 73,S 1 74 58,g 75 (.cM (t 50)),A 76 1 75,S 1 76 65,g 77 (.cM (t 51)),A 78 2 77,S 1 78 72] [0,1,2,3,4,5,6,7,8,9,10,11,12,13,14,15,16,17,18,19,20,21,22,23,24,25,26,27,28,29,30,31,32] [0,0,0,0,8,24,56,0,128,504,0,1024,3072,7168,0,16384,64512,0,131072,393216,917504,0,2097152,8257536,1982457,18759673,52314105,119537659,253755387,522190843,1073741823,2147483647,4294967295] []))))
end
theorem Lt(L:aM T){H:Heap}(hr:Rdy H){q l lo N:Nat}{F u:Value}{b:Bx}{c:Ce}(C:lo<=q)(M:q<l)(B:l<N)
 (gl:H.get l=some (.loop [(2,u),(4, .pointer (some ⟨q,0,none⟩)),(15,F)] [16] xF xJ 0 .normal))
 (v:H.get q=some (qt (bxL b))){S:Heap->Prop}:
 FW T (.yield l) [ceV c] H λr p=>(∀z∈p.log,lo<=z/\z<N)/\(r= .ret (.bool true)/\(p.get q=some (qt (bxL (p8 b c)))/\(∀z,z<H.next->z≠q->p.get z=H.get z)/\H.next<=p.next)∨r= .ret (.bool false)/\l∈p.log/\S p):=by
 have I:q≠l:=by omega
 have G:=hr.wf.dS v;have O:=hr.wf.dS gl;refine FW.PO L (R:=λp=>p.get q=some (qt (bxL (p8 b c)))/\(∀z,z<H.next->z≠q->p.get z=H.get z)/\H.next<=p.next) gl rfl O ⟨by omega,B⟩ ?_;unfold xF;refine Y3 ?_;refine bH ?_;refine y1 ?_;refine⟨rfl,YG,?_⟩;unfold xJ;refine mW ?_;refine WE.BU ?_;intro m j;have E:∀z,z<H.next->z≠l->H.get z=m.get z:=λz g x=>by rw[j];symm;simp(disch:=first|omega|(simp only[z1,z2];omega))only[z5,z4]
 have y:m.get H.next=some (qt (ceL c)):=by rw[j];(simp(disch:=first|omega|(simp only[z1,z2];omega))only[z3,z4,z5,z6,z7,z1,z2,gl,v];exact rfl)
 have P:m.get l=some (.loop [(2,u),(4, .pointer (some ⟨q,0,none⟩)),(15,F)] [16] xF xJ 1 .normal):=by rw[j];(simp(disch:=first|omega|(simp only[z1,z2];omega))only[z3,z4,z5,z6,z7,z1,z2,gl,v,y];exact rfl)
 have Q:m.next=H.next+1:=by rw[j];rfl
 have J:m.log=[]:=by rw[j];simp(disch:=first|omega|(simp only[z1,z2];omega))only[Heap.au,Heap.yZ];exact hr.log
 have U:WF m:=by rw[j];exact(((hr.wf.push _).as (AS.wr _ _ _ _)).as (AS.wr _ _ _ _))
 clear j;have s:=(E q G I).symm.trans v;obtain⟨⟨n,a,e⟩,⟨o,d,f⟩⟩:=b;obtain⟨i,k,t⟩:=c;unfold bxL ceL at s;dsimp only[GT,HO]at s;unfold ceL at y;dsimp only at y;clear v;refine Y34 ?_;refine iO (vs:=[.int .i64 n, .int .i64 a, .int .i64 e, .int .i64 o, .int .i64 d, .int .i64 f]) (ws:=[.int .i64 (mi n i), .int .i64 a, .int .i64 e, .int .i64 o, .int .i64 d, .int .i64 f]) rfl rfl rfl (by rfl) (by rfl) (by rfl) (s) (by rfl) (by rfl) (by show q<m.next;omega) (by(repeat apply aC rfl);apply aG rfl (aq rfl (BB (by rfl) (by rfl)) (by exact dD _ _)) rfl;apply aG rfl (aq rfl (dV (by rfl) YG (by rfl)) (by exact dD _ _)) rfl;apply aG rfl (aq rfl (ez (by rfl)) (by exact di _)) rfl;(repeat apply aC rfl);apply aG rfl (aq rfl (BB (by rfl) (by rfl)) (by exact dD _ _)) rfl;apply aG rfl (aq rfl (dV (by rfl) YG (by rfl)) (by exact dD _ _)) rfl;apply aG rfl (aq rfl (ez (by rfl)) (by exact di _)) rfl;(repeat apply aC rfl);apply aG rfl (aq rfl (dx (by rfl)) (by exact di _)) rfl;apply aG rfl (aq rfl (dx (by rfl)) (by exact di _)) rfl;apply aC rfl;exact aQ) ?_;refine Y2 ?_;refine iO (vs:=[.int .i64 (mi n i), .int .i64 a, .int .i64 e, .int .i64 o, .int .i64 d, .int .i64 f]) (ws:=[.int .i64 (mi n i), .int .i64 (mi a k), .int .i64 e, .int .i64 o, .int .i64 d, .int .i64 f]) rfl rfl rfl (by rfl) (by rfl) (by rfl) (Heap.aP (s)) (by rfl) (by rfl) (by show q<m.next;omega) (by(repeat apply aC rfl);apply aG rfl (aq rfl (BB (by rfl) (by rfl)) (by exact dD _ _)) rfl;apply aG rfl (aq rfl (dV (by rfl) YG (by rfl)) (by exact dD _ _)) rfl;apply aG rfl (aq rfl (ez (by rfl)) (by exact di _)) rfl;(repeat apply aC rfl);apply aG rfl (aq rfl (dx (by rfl)) (by exact di _)) rfl;apply aC rfl;exact aQ) ?_;refine Y2 ?_;refine iO (vs:=[.int .i64 (mi n i), .int .i64 (mi a k), .int .i64 e, .int .i64 o, .int .i64 d, .int .i64 f]) (ws:=[.int .i64 (mi n i), .int .i64 (mi a k), .int .i64 (mi e t), .int .i64 o, .int .i64 d, .int .i64 f]) rfl rfl rfl (by rfl) (by rfl) (by rfl) (Heap.aP (Heap.aP (s))) (by rfl) (by rfl) (by show q<m.next;omega) (by(repeat apply aC rfl);exact aQ) ?_;refine Y30 ?_;refine iO (vs:=[.int .i64 (mi n i), .int .i64 (mi a k), .int .i64 (mi e t), .int .i64 o, .int .i64 d, .int .i64 f]) (ws:=[.int .i64 (mi n i), .int .i64 (mi a k), .int .i64 (mi e t), .int .i64 (mx o i), .int .i64 d, .int .i64 f]) rfl rfl rfl (by rfl) (by rfl) (by rfl) (Heap.aP (Heap.aP (Heap.aP (s)))) (by rfl) (by rfl) (by show q<m.next;omega) (by(repeat apply aC rfl);apply aG rfl (aq rfl (Hz (by rfl) (by rfl)) (by exact dD _ _)) rfl;apply aG rfl (aq rfl (dV (by rfl) YG (by rfl)) (by exact dD _ _)) rfl;apply aG rfl (aq rfl (ez (by rfl)) (by exact di _)) rfl;(repeat apply aC rfl);apply aG rfl (aq rfl (Hz (by rfl) (by rfl)) (by exact dD _ _)) rfl;apply aG rfl (aq rfl (dV (by rfl) YG (by rfl)) (by exact dD _ _)) rfl;apply aG rfl (aq rfl (ez (by rfl)) (by exact di _)) rfl;(repeat apply aC rfl);apply aG rfl (aq rfl (dx (by rfl)) (by exact di _)) rfl;apply aG rfl (aq rfl (dx (by rfl)) (by exact di _)) rfl;apply aC rfl;exact aQ) ?_;refine Y2 ?_;refine iO (vs:=[.int .i64 (mi n i), .int .i64 (mi a k), .int .i64 (mi e t), .int .i64 (mx o i), .int .i64 d, .int .i64 f]) (ws:=[.int .i64 (mi n i), .int .i64 (mi a k), .int .i64 (mi e t), .int .i64 (mx o i), .int .i64 (mx d k), .int .i64 f]) rfl rfl rfl (by rfl) (by rfl) (by rfl) (Heap.aP (Heap.aP (Heap.aP (Heap.aP (s))))) (by rfl) (by rfl) (by show q<m.next;omega) (by(repeat apply aC rfl);apply aG rfl (aq rfl (Hz (by rfl) (by rfl)) (by exact dD _ _)) rfl;apply aG rfl (aq rfl (dV (by rfl) YG (by rfl)) (by exact dD _ _)) rfl;apply aG rfl (aq rfl (ez (by rfl)) (by exact di _)) rfl;(repeat apply aC rfl);apply aG rfl (aq rfl (dx (by rfl)) (by exact di _)) rfl;apply aC rfl;exact aQ) ?_;refine Y2 ?_;refine iO (vs:=[.int .i64 (mi n i), .int .i64 (mi a k), .int .i64 (mi e t), .int .i64 (mx o i), .int .i64 (mx d k), .int .i64 f]) (ws:=[.int .i64 (mi n i), .int .i64 (mi a k), .int .i64 (mi e t), .int .i64 (mx o i), .int .i64 (mx d k), .int .i64 (mx f t)]) rfl rfl rfl (by rfl) (by rfl) (by rfl) (Heap.aP (Heap.aP (Heap.aP (Heap.aP (Heap.aP (s)))))) (by rfl) (by rfl) (by show q<m.next;omega) (by(repeat apply aC rfl);exact aQ) ?_;refine Y3 ?_;refine⟨⟨_,YG,rfl⟩,λz g=> ?_, .inl ⟨rfl,λV K w A=> ?_⟩⟩
 ·have D:z=q:=by
   rcases fk g with h|g
   ·exact h
   rcases fk g with h|g
   ·exact h
   rcases fk g with h|g
   ·exact h
   rcases fk g with h|g
   ·exact h
   rcases fk g with h|g
   ·exact h
   rcases fk g with h|g
   ·exact h
   rw[J]at g;cases g
  subst D;exact⟨C,by omega⟩
 ·refine⟨(w q G I).trans (Heap.aP (Heap.aP (Heap.aP (Heap.aP (Heap.aP (Heap.aP (s))))))),λz g x=> ?_,K⟩;by_cases hl:z=l
  ·subst hl;rw[gl];exact A
  ·refine(w z g hl).trans ?_;refine Eq.trans ?_ (E z g hl).symm;simp only[z5 x]
structure PXo (l q:Nat) (H0:Heap) (L:bR) (f:List Ce->List Value) (done:List Ce) (H:Heap):Prop where
 old:∀z,z<l->z≠q->H.get z=H0.get z
 loop:H.get l=some L
 val:H.get q=some (qt (f done))
theorem PXo.gu{l q:Nat}{c:Heap}{L:bR}{f:List Ce->List Value}(e:q<l)(done:List Ce)(H a:Heap)(p:PXo l q c L f done H)(_:l+1<=a.next)(h:∀x,x<l+1->a.get x=H.get x):PXo l q c L f done a:=
 ⟨λz d b=>(h z (by omega)).trans (p.old z d b),(h l (by omega)).trans p.loop,(h q (by omega)).trans p.val⟩
def bY(s:List Nat):Bx×Bool:=if s=s0 then(⟨c0,c0⟩,false)else(bxS (aX s 512),true)
def IY(p:Bx×Bool):Value:= .tuple #[bxV p.1, .bool p.2]
structure S8 (T:Nat->Option an):Prop where
 cp:Hr T
 f210:T 121=some f210
variable{h:Heap}
theorem AF(F:S8 T)(hr:Rdy h)(hg:Tab h)(h2:0<h.next){s:List Nat}(j:IsS s):Pu T 121 [sv s] h (IY (bY s)):=by
 have Z:=F.cp.p;refine .of Z F.f210 hr rfl ?_;have k8:=aL j.len;have k9:=aV j.len;have L:Ext h ((h.push (qt (cellsOf (sv s)))).push (qt [I.O,I.O,I.O,I.O,I.O,I.O])):=((Ext.refl h).push _).push _;have U:((h.push (qt (cellsOf (sv s)))).push (qt [I.O,I.O,I.O,I.O,I.O,I.O])).get h.next=some (qt (us s)):=(z4 (ec _)).trans (z3 h _)
 have V:((h.push (qt (cellsOf (sv s)))).push (qt [I.O,I.O,I.O,I.O,I.O,I.O])).get (h.next+1)=some (qt [I.O,I.O,I.O,I.O,I.O,I.O]):=z3 _ _;have n0:((h.push (qt (cellsOf (sv s)))).push (qt [I.O,I.O,I.O,I.O,I.O,I.O])).next=h.next+2:=rfl
 refine Y5 ?_;generalize((h.push (qt (cellsOf (sv s)))).push (qt [I.O,I.O,I.O,I.O,I.O,I.O]))=H at*;have W:=L.wf hr.wf;have hL:=L.log.trans hr.log;unfold bY;by_cases he:s=s0
 ·rw[if_pos he];have u:bO 6 (bK 0 (bxL ⟨c0,c0⟩))=bxL ⟨c0,c0⟩:=rfl;refine Y4 ?_;refine aF (jy (b:=s0) (by rfl) (by rfl) j.len rfl) ?_;rw[decide_eq_true he];refine Y9 ?_;refine ah ?_ (bS (own:=true) (s:=1) (l:=bxL ⟨c0,c0⟩) rfl ?_ u rfl rfl) rfl
  ·rw[Heap.au (by show h.next<=h.next+1;omega)];exact hL
  ·exact YG
 ·rw[if_neg he];have r:=dX (h:=H) (base:=h.next) (by omega) (qt [I.O,I.O,I.O,I.O,I.O,I.O]) (qt (bxL bx0));have J:=fU (h:=H) (base:=h.next) [I.O,I.O,I.O,I.O,I.O,I.O] (bxL bx0);refine Y4 ?_;refine aF (jy (b:=s0) (by rfl) (by rfl) j.len rfl) ?_;rw[decide_eq_false he];refine Y4 ?_;refine dw (E0:=[(1, sb h.next),(2, sb (h.next+1)),(4, sb H.next)]) (P:=λn=>Ext H n∧n.next=H.next+1/\n.get H.next=some (qt (bxL bx0))) ?_ ?_
  ·refine Y5 ?_;refine bH ?_;refine y1 ?_;exact⟨rfl,rfl,rfl,dX (by omega) _ _,rfl,fU _ _⟩
  rintro M ⟨r,n1,J⟩;have c:=L.trans r;have W1:=c.wf hr.wf;have a7:=c.log.trans hr.log;have ga:=(r.old _ (by omega)).trans U;have X:=(r.old _ (by omega)).trans V;have C:=DQ F.cp (h:={M with log:=[]}) (.of W1) j;clear U V;refine Y4 ?_;refine FW.al C (λv n m q=>q) ?_;rintro _ a t ⟨q,rfl,gq,q2,q3⟩;clear C;have q2:M.next<=q:=q2
  have f:=c.trans t;have Q:=f.wf hr.wf;have A:=f.log.trans hr.log;have n2:=t.next
  have y:=(t.old _ (by omega)).trans X;have K:=(t.old _ (by omega)).trans J;have B:Tab a:=hg.ext f h2;clear ga X J;refine Y2 ?_;refine Bt (lo:=H.next) (P:=PXo a.next H.next a (.loop [(2, .pointer (some ⟨h.next+1,0,none⟩)),(4, .pointer (some ⟨H.next,0,none⟩)),(15,fnC q)] [16] xF xJ 0 .normal) (λd=>bxL (bxS d)) (aX s 512)) (S:=λ_=>False) rfl (by rfl) (by rw[F.cp.f265];rfl) (by omega) (by omega) A Q ?_ (λH p=>⟨_,_,_,_,p.loop⟩) (λH p=>p.elim) ?_ (λ_ _ _ _ _ _ _ p=>p.elim)
  ·have Y:KT T H.next (a.next+1) a.next ceV (aX s 512) (PXo a.next H.next a (.loop [(2, .pointer (some ⟨h.next+1,0,none⟩)),(4, .pointer (some ⟨H.next,0,none⟩)),(15,fnC q)] [16] xF xJ 0 .normal) (λd=>bxL (bxS d))) (λ_=>False):=by
    refine⟨λdone x Hh hx E hN i=> ?_,PXo.gu (by omega),λ_ _ h=>h,λ_ h=>h.elim⟩;refine FW.mono' (Lt Z E (lo:=H.next) (N:=a.next+1) (S:=λ_=>False) (bl _) (by omega) (by omega) i.loop i.val) ?_;rintro r' H' ⟨r1,r2⟩;refine⟨r1,r2.imp (λ⟨e,g,o,_⟩=>⟨e,λz G k=>(o z (by omega) k).trans (i.old z G k),(o _ (by omega) (by omega)).trans i.loop,?_⟩) id⟩;rw[Lr];exact g
   exact AH F.cp (.of (Q.push _)) (q0:=q) (l:=a.next) (N:=a.next+1) (lo:=H.next) j (bl _) (by show H.next<=a.next+1;omega) (ec _) Y ((z4 (by omega)).trans gq) (λd H' i=>(i.old 0 (by omega) (by omega)).trans B)
    ⟨λz G _=>z4 G,z3 _ _,(z4 (by omega)).trans K⟩
  intro h4 h5 k1 k2 k3 k4 k5 i;have D:=(k5 H.next (by omega)).trans i.val;have D2:=(k5 (h.next+1) (by omega)).trans ((i.old _ (by omega) (by omega)).trans y);generalize bxS (aX s 512)=b at*;have ck:bO 6 (bK 0 (bxL b))=bxL b:=rfl;have w:Nat.beq (bM (bxL b)) 6=true:=rfl;refine Y8 ?_;refine ah ?_ (bS (own:=true) (s:=1) (l:=bxL b) rfl ?_ ck w rfl) rfl
  ·rw[Heap.au (by show h.next<=h.next+1;omega)];exact k1
  ·exact YG
def ei:Nat->Ce->Ce
 |0,c=>c
 |1,c=>⟨c.x,7-c.z,c.y⟩
 |2,c=>⟨c.x,7-c.y,7-c.z⟩
 |3,c=>⟨c.x,c.z,7-c.y⟩
 |4,c=>⟨c.z,c.y,7-c.x⟩
 |_,c=>⟨7-c.z,c.y,c.x⟩
def GV(c:Ce):Ce:=⟨7-c.y,c.x,c.z⟩
def pL:Nat->Ce->Ce
 |0,c=>c
 |n+1,c=>GV (pL n c)
def gi(t:Nat)(c:Ce):Ce:=pL (t % 4) (ei (t / 4) c)
structure InB (c:Ce):Prop where
 x:0<=c.x/\c.x<=7
 y:0<=c.y/\c.y<=7
 z:0<=c.z/\c.z<=7
theorem lC{c:Ce}:inG c=true↔InB c:=by
 unfold inG;rw[decide_eq_true_eq];exact⟨λh=>⟨h.1,h.2.1,h.2.2⟩,λh=>⟨h.x,h.y,h.z⟩⟩
theorem InB.Vb{c:Ce}(h:InB c)(k:Nat):InB (ei k c):=by
 obtain⟨a,b,d⟩:=h;unfold ei;split<;>(constructor<;>(first|omega|(dsimp only;omega)))
theorem InB.rot{c:Ce}(h:InB c):∀n,InB (pL n c)
 |0=>h
 |n+1=>by
  obtain⟨h1,h2,h3⟩:=h.rot n;unfold pL GV;exact⟨by dsimp only;omega,h1,h3⟩
theorem InB.aav{c:Ce}(h:InB c)(t:Nat):InB (gi t c):=(h.Vb _).rot _
theorem dL{a:Int}(h:0<=a/\a<=7):vd 7 a (7-a):=kg (aU (by omega) (by omega))
theorem M0{a:Nat}:af .rem (.int .i64 a) (.int .i64 4)=some (.int .i64 ((a % 4:Nat):Int)):=by
 have e:(a:Int).tmod 4=((a % 4:Nat):Int):=by rw[Int.tmod_eq_emod_of_nonneg (by omega)];omega
 simp[af,arith,e]
theorem MZ{a:Nat}(h1:a<9223372036854775808):af .quo (.int .i64 a) (.int .i64 4)=some (.int .i64 ((a / 4:Nat):Int)):=by
 have e:fZ .i64 ((a:Int).tdiv 4)=((a / 4:Nat):Int):=by
  rw[Int.tdiv_eq_ediv_of_nonneg (by omega),aU (by omega) (by omega)];omega
 have b:af .quo (.int .i64 a) (.int .i64 4)=some (.int .i64 (fZ .i64 ((a:Int).tdiv 4))):=rfl;rw[b,e]
structure tU (T:Nat->Option an):Prop where
 p:aM T
 f263:T 142=some f263
 f317:T 160=some f317
 f318:T 161=some f318
 f319:T 162=some f319
 f320:T 163=some f320
 f321:T 164=some f321
 f322:T 165=some f322
theorem Yl(F:tU T)(hr:Rdy h)(v:Value){c:Ce}(j:InB c):Pu T 160 [v,ceV c] h (ceV (ei 0 c)):=by
 refine .of F.p F.f317 hr rfl ?_;obtain⟨a,b,d⟩:=c;obtain⟨e,f,g⟩:=j;dsimp only at e f g;have mx:=dL e;have k:=dL f;have l:=dL g;have i:bO 3 (bK 0 (ceL (ei 0 ⟨a,b,d⟩)))=ceL (ei 0 ⟨a,b,d⟩):=rfl;refine Y9 ?_;refine ah ?_ (bS (own:=true) (s:=1) rfl ?_ i rfl rfl) rfl
 ·rw[Heap.au (by show h.next<=h.next+1;omega)];exact hr.log
 ·exact YG
theorem Ym(F:tU T)(hr:Rdy h)(v:Value){c:Ce}(j:InB c):Pu T 161 [v,ceV c] h (ceV (ei 1 c)):=by
 refine .of F.p F.f318 hr rfl ?_;obtain⟨a,b,d⟩:=c;obtain⟨e,f,g⟩:=j;dsimp only at e f g;have mx:=dL e;have k:=dL f;have l:=dL g;have i:bO 3 (bK 0 (ceL (ei 1 ⟨a,b,d⟩)))=ceL (ei 1 ⟨a,b,d⟩):=rfl;refine Y16 ?_;refine ah ?_ (bS (own:=true) (s:=1) rfl ?_ i rfl rfl) rfl
 ·rw[Heap.au (by show h.next<=h.next+1;omega)];exact hr.log
 ·exact YG
theorem Yn(F:tU T)(hr:Rdy h)(v:Value){c:Ce}(j:InB c):Pu T 162 [v,ceV c] h (ceV (ei 2 c)):=by
 refine .of F.p F.f319 hr rfl ?_;obtain⟨a,b,d⟩:=c;obtain⟨e,f,g⟩:=j;dsimp only at e f g;have mx:=dL e;have k:=dL f;have l:=dL g;have i:bO 3 (bK 0 (ceL (ei 2 ⟨a,b,d⟩)))=ceL (ei 2 ⟨a,b,d⟩):=rfl;refine Y17 ?_;refine ah ?_ (bS (own:=true) (s:=1) rfl ?_ i rfl rfl) rfl
 ·rw[Heap.au (by show h.next<=h.next+1;omega)];exact hr.log
 ·exact YG
theorem Yo(F:tU T)(hr:Rdy h)(v:Value){c:Ce}(j:InB c):Pu T 163 [v,ceV c] h (ceV (ei 3 c)):=by
 refine .of F.p F.f320 hr rfl ?_;obtain⟨a,b,d⟩:=c;obtain⟨e,f,g⟩:=j;dsimp only at e f g;have mx:=dL e;have k:=dL f;have l:=dL g;have i:bO 3 (bK 0 (ceL (ei 3 ⟨a,b,d⟩)))=ceL (ei 3 ⟨a,b,d⟩):=rfl;refine Y16 ?_;refine ah ?_ (bS (own:=true) (s:=1) rfl ?_ i rfl rfl) rfl
 ·rw[Heap.au (by show h.next<=h.next+1;omega)];exact hr.log
 ·exact YG
theorem Yp(F:tU T)(hr:Rdy h)(v:Value){c:Ce}(j:InB c):Pu T 164 [v,ceV c] h (ceV (ei 4 c)):=by
 refine .of F.p F.f321 hr rfl ?_;obtain⟨a,b,d⟩:=c;obtain⟨e,f,g⟩:=j;dsimp only at e f g;have mx:=dL e;have k:=dL f;have l:=dL g;have i:bO 3 (bK 0 (ceL (ei 4 ⟨a,b,d⟩)))=ceL (ei 4 ⟨a,b,d⟩):=rfl;refine Y16 ?_;refine ah ?_ (bS (own:=true) (s:=1) rfl ?_ i rfl rfl) rfl
 ·rw[Heap.au (by show h.next<=h.next+1;omega)];exact hr.log
 ·exact YG
theorem Yq(F:tU T)(hr:Rdy h)(v:Value){c:Ce}(j:InB c):Pu T 165 [v,ceV c] h (ceV (ei 5 c)):=by
 refine .of F.p F.f322 hr rfl ?_;obtain⟨a,b,d⟩:=c;obtain⟨e,f,g⟩:=j;dsimp only at e f g;have mx:=dL e;have k:=dL f;have l:=dL g;have i:bO 3 (bK 0 (ceL (ei 5 ⟨a,b,d⟩)))=ceL (ei 5 ⟨a,b,d⟩):=rfl;refine Y16 ?_;refine ah ?_ (bS (own:=true) (s:=1) rfl ?_ i rfl rfl) rfl
 ·rw[Heap.au (by show h.next<=h.next+1;omega)];exact hr.log
 ·exact YG
theorem Yr(F:tU T)(hr:Rdy h)(v:Value){c:Ce}(a:InB c):∀k,k<6->Pu T (160+k) [v,ceV c] h (ceV (ei k c))
 |0,_=>Yl F hr v a
 |1,_=>Ym F hr v a
 |2,_=>Yn F hr v a
 |3,_=>Yo F hr v a
 |4,_=>Yp F hr v a
 |5,_=>Yq F hr v a
 |k+6,h=>by omega
def wA(k:Nat):Value:= .func (.func (160+k)) #[.int .i64 0] #[]
def OK:List Value:=[wA 0,wA 1,wA 2,wA 3,wA 4,wA 5]
theorem OL:∀k,k<6->bN OK (0+k*1)=some (wA k)
 |0,_=>rfl
 |1,_=>rfl
 |2,_=>rfl
 |3,_=>rfl
 |4,_=>rfl
 |5,_=>rfl
 |k+6,h=>by omega
theorem Kn(F:tU T)(hr:Rdy h){c:Ce}(B:InB c){t:Nat}(ht:t<24):Pu T 142 [ceV c, .int .i64 (t:Nat)] h (ceV (gi t c)):=by
 refine .of F.p F.f263 hr rfl ?_;have q:Ext h ((h.push (qt (cellsOf (ceV c)))).push (qt [I.O,I.O,I.O])):=((Ext.refl h).push _).push _;have z:((h.push (qt (cellsOf (ceV c)))).push (qt [I.O,I.O,I.O])).get h.next=some (qt (ceL c)):=(z4 (ec _)).trans (z3 h _)
 have A:((h.push (qt (cellsOf (ceV c)))).push (qt [I.O,I.O,I.O])).get (h.next+1)=some (qt [I.O,I.O,I.O]):=z3 _ _;have n0:((h.push (qt (cellsOf (ceV c)))).push (qt [I.O,I.O,I.O])).next=h.next+2:=rfl
 refine Y4 ?_;generalize((h.push (qt (cellsOf (ceV c)))).push (qt [I.O,I.O,I.O]))=H at*;have W:=q.wf hr.wf;have hL:=q.log.trans hr.log;refine Y3 ?_;refine dw (E0:=[(1, zc (t:Nat)),(2, sb h.next),(4, sb (h.next+1)),(6, sb H.next)]) (P:=λf=>Ext H f∧f.next=H.next+1/\f.get H.next=some (qt OK)) ?_ ?_
 ·refine Y16 ?_;refine bH ?_;refine y1 ?_;exact⟨rfl,rfl,rfl,dX (by omega) _ _,rfl,fU _ _⟩
 rintro v ⟨u,n1,q1⟩;have a:=q.trans u;have G:=a.wf hr.wf;have U:=a.log.trans hr.log;have M:=(u.old _ (by omega)).trans z;have N:=(u.old _ (by omega)).trans A;have D:t / 4<6:=by omega
 have m1:af .quo (.int .i64 (t:Nat)) (.int .i64 4)=some (.int .i64 ((t / 4:Nat):Int)):=MZ (by omega);have m2:af .rem (.int .i64 (t:Nat)) (.int .i64 4)=some (.int .i64 ((t % 4:Nat):Int)):=M0;have L:=OL (t / 4) D;have C:=Yr F (h:={v with log:=[]}) (.of G) (.int .i64 0) B (t / 4) D;have l:=B.Vb (t / 4);have X:t % 4<4:=by omega
 have ck:bO 3 (bK 0 (ceL c))=ceL c:=rfl;have K:Nat.beq (bM (ceL c)) 3=true:=rfl;unfold gi;generalize hq:ei (t / 4) c=d at*;generalize t / 4=k at*;generalize t % 4=r at*;unfold wA at L;clear z A;refine Y8 ?_;refine FW.puD C (by(repeat apply aC rfl);exact aQ) ?_;clear C;refine jG rfl rfl rfl (by rfl) (by rfl) (by rfl) (by assumption) (by rfl) (by rfl) (by omega) (by omega) (by exact aQ) ?_;refine Y10 ?_
 refine bg (λm e y f=>∃j:Nat,j<=r/\r-j=m/\e=[(2, .pointer (some ⟨h.next,0,none⟩)),(4, .pointer (some ⟨h.next+1,0,none⟩)),(27, .int .i64 (r:Nat)),(28, .int .i64 (j:Nat))]/\y=[]/\Ext h f∧h.next+2<=f.next/\f.get h.next=some (qt (ceL (pL j d)))/\f.get (h.next+1)=some (qt [I.O,I.O,I.O]))
  ⟨0,gK _,rfl,rfl,rfl,⟨a.next,(Heap.au (by omega)).trans a.log,λb l=>(z5 (by omega)).trans (a.old b l),λw=>(a.wf w).as (AS.wr h.next _ _ _)⟩,by show h.next+2<=v.next;omega,by rw[z6,M];rfl,(z5 (by omega)).trans N⟩ ?_
 rintro m e y f ⟨j,hj,rfl,rfl,rfl,x,V,Q,S⟩;have o:=l.rot j;by_cases hlt:j<r
 ·have g:pL (j+1) d=GV (pL j d):=rfl;generalize pL j d=b at*;obtain⟨Y,J,Z⟩:=b;obtain⟨_,E,_⟩:=o;dsimp only at E;have my:=dL E;unfold GV at g;dsimp only at g;refine Y19 ?_;refine bH ?_;refine Y7 ?_;refine⟨r-(j+1),by omega,j+1,by omega,rfl,rfl,rfl,⟨x.next,(Heap.au (by omega)).trans x.log,λb l=>(z5 (by omega)).trans (x.old b l),λw=>(x.wf w).as (AS.wr h.next _ _ _)⟩,V,?_,(z5 (by omega)).trans S⟩;rw[z6,Q,g];rfl
 ·obtain rfl:j=r:=by omega
  generalize pL j d=b at*;have n:bO 3 (bK 0 (ceL b))=ceL b:=rfl;have i:Nat.beq (bM (ceL b)) 3=true:=rfl;refine Y15 ?_;refine ah ?_ (bS (own:=true) (s:=1) rfl ?_ n i rfl) rfl
  ·rw[Heap.au (by show h.next<=h.next+1;omega)];exact x.log.trans hr.log
  ·exact YG
end Go.A.Pk
end
section
namespace Go.A.Pk
variable {T:Nat->Option an}
def mS(o:List Nat)(c:Ce):List Nat:=o.set c.z.toNat (Nat.lor (o.getD c.z.toNat 0) (2 ^ (8*c.y.toNat+c.x.toNat)))
variable{z:Nat}
theorem wZ(o:List Nat){i:Nat}(hi:i<64):mS o (eX z i)=o.set z (Nat.lor (o.getD z 0) (2 ^ i)):=by
 unfold mS eX;dsimp only;rw[show((z:Nat):Int).toNat=z by omega,show 8*((i / 8:Nat):Int).toNat+((i % 8:Nat):Int).toNat=i by omega]
variable{o:List Nat}
theorem IsS.mS(h:IsS o){c:Ce}(b:inG c=true):IsS (Pk.mS o c):=by
 obtain⟨z,i,e,a,rfl⟩:=iJ b;rw[wZ o a];refine⟨by rw[ul];exact h.len,λx d=> ?_⟩;rcases Fd d with h1|h1
 ·exact h.lt x h1
 ·rw[h1];exact MU (h.lB z) (uO a)
def lT(f:Ce->Ce)(l:List Ce):List Nat:=l.foldl (λo c=>mS o (f c)) s0
def iu(f:Ce->Ce)(s:List Nat):List Nat:=lT f (aX s 512)
theorem rV(f:Ce->Ce)(l:List Ce)(c:Ce):lT f (l++[c])=mS (lT f l) (f c):=by unfold lT;rw[D4];rfl
theorem rU{f:Ce->Ce}:∀{l:List Ce},(∀c∈l,inG (f c)=true)->IsS (lT f l):=by
 intro l;have:∀(l:List Ce) (o:List Nat),IsS o->(∀c∈l,inG (f c)=true)->IsS (l.foldl (λo c=>mS o (f c)) o):=by
  intro l;induction l with
  |nil=>intro o b _;exact b
  |cons c l ih=>intro o b a;exact ih _ (b.mS (a c bx)) λx d=>a x (bu _ d)
 exact λa=>this l s0 Bf a
theorem Dc{v:Nat}(a:z<o.length):dy (us o) (0+z*1) (cellsOf (.int .u64 (v:Nat)))=us (o.set z v):=by
 show dy (us o) (0+z*1) [.int .u64 (v:Nat)]=_;rw[j3,xf,fQ (by rw[aB];simp;omega)];unfold us;rw[Ys,List.set_eq_take_append_cons_drop,if_pos (by simpa using a)];simp
section
open I
def vm:aT:=I.R [g 7 (.new [O,O,O]),S 3 7 11] [3,4,5,6,7]
def vn:aT:=(.block 1 (Q (I.R [L 12 3,N 13 3 7,g 14 (.call (t 12) [(t 13)]),g 8 (.new [O,O,O]),S 3 8 14] [4,5,6,8])
 (Q (.seq (I.R [N 15 3 8,g 16 (.call (.func 90) [(t 15)]),g 17 (.un .not (t 16))] [4,5,6,8,17])
 (.cond (t 17) (Q (I.R [g 18 (.build (aI 8 (.int .u64 0)) []),S 8 4 18,⟨none, .store 1 (t 5) (.const (.bool false)),none⟩] [])
 .ret) .skip))
 (.draw [A 19 2 8,L 20 19,g 21 (.cQ 8 1 (t 6) (t 20)),L 22 21,N 23 3 8,g 24 (.call (.func 91) [(t 23)]),B 25 .or 22 24,g 26 (.cQ 8 1 (t 6) (t 20)),S 1 26 25] [0,1,2,3,4,5,6,7,8] [0,1,3,7,0,16,63,127,255] []))))
end
structure Dr (T:Nat->Option an):Prop where
 cp:Hr T
 tu:tU T
 f126:T 90=some f126
 f127:T 91=some f127
 f211:T 122=some f211
 f215:T 119=some f215
 f261:T 140=some f261
 f262:T 141=some f262
variable{gf:Nat}{cap:Value}
theorem Js(F:Dr T){H:Heap}(hr:Rdy H){q l lo N b3 C D:Nat}{Z:Value}{o:List Nat}(ho:IsS o){c d:Ce}(hd:inG d=true)(K:lo<=q)(ar:q<l)(J:l<N)(am:b3<q)
 (gl:H.get l=some (.loop [(3, .pointer (some ⟨b3,0,none⟩)),(4, .pointer (some ⟨C,0,none⟩)),(5, .pointer (some ⟨D,0,none⟩)),(6, .pointer (some ⟨q,0,none⟩)),(10,Z)] [11] vm vn 0 .normal))
 (m:H.get b3=some (qt [.func (.func gf) #[] #[cap]]))
 (w:∀f:Heap,WF f→(∀z,z<b3->f.get z=H.get z)->Pu T gf [ceV c,cap] {f with log:=[]} (ceV d))
 (n:H.get q=some (qt (us o))){S:Heap->Prop}:
 FW T (.yield l) [ceV c] H λr f=>(∀z∈f.log,lo<=z/\z<N)/\(r= .ret (.bool true)/\(f.get q=some (qt (us (mS o d)))/\(∀z,z<H.next->z≠q->f.get z=H.get z)/\H.next<=f.next)∨r= .ret (.bool false)/\l∈f.log/\S f):=by
 have L:=F.cp.p;have no:q≠l:=by omega
 have ko:=hr.wf.dS n;have kl:=hr.wf.dS gl;have k3:=hr.wf.dS m;refine FW.PO L (R:=λf=>f.get q=some (qt (us (mS o d)))/\(∀z,z<H.next->z≠q->f.get z=H.get z)/\H.next<=f.next) gl rfl kl ⟨by omega,J⟩ ?_;unfold vm;refine Y3 ?_;refine bH ?_;refine y1 ?_;refine⟨rfl,YG,?_⟩;unfold vn;refine mW ?_;refine WE.BU ?_;intro j e;have y:∀z,z<H.next->z≠l->H.get z=j.get z:=λz g u=>by rw[e];symm;simp(disch:=first|omega|(simp only[z1,z2];omega))only[z5,z4]
 have Q:j.get H.next=some (qt (ceL c)):=by rw[e];(simp(disch:=first|omega|(simp only[z1,z2];omega))only[z3,z4,z5,z6,z7,z1,z2,gl,m,n];exact rfl)
 have O:j.get l=some (.loop [(3, .pointer (some ⟨b3,0,none⟩)),(4, .pointer (some ⟨C,0,none⟩)),(5, .pointer (some ⟨D,0,none⟩)),(6, .pointer (some ⟨q,0,none⟩)),(10,Z)] [11] vm vn 1 .normal):=by rw[e];(simp(disch:=first|omega|(simp only[z1,z2];omega))only[z3,z4,z5,z6,z7,z1,z2,gl,m,n,Q];exact rfl)
 have A5:j.next=H.next+1:=by rw[e];rfl
 have A6:j.log=[]:=by rw[e];simp(disch:=first|omega|(simp only[z1,z2];omega))only[Heap.au,Heap.yZ];exact hr.log
 have U:WF j:=by rw[e];exact(((hr.wf.push _).as (AS.wr _ _ _ _)).as (AS.wr _ _ _ _))
 clear e;have V:=(y q ko no).symm.trans n;have B3:=(y b3 k3 (by omega)).symm.trans m;have A:=w j U λz g=>(y z (by omega) (by omega)).symm;have ck:bO 3 (bK 0 (ceL c))=ceL c:=rfl;have ae:Nat.beq (bM (ceL c)) 3=true:=rfl;clear n w;refine dw (E0:=[(4, sb C),(5, sb D),(6, sb q),(8, sb j.next)]) (P:=λE=>Ext j E∧E.next=j.next+1/\E.get j.next=some (qt (ceL d))) ?_ ?_
 ·refine Y4 ?_;refine FW.pu A ?_;clear A;refine Y2 ?_;refine bH ?_;refine y1 ?_;exact⟨rfl,rfl,rfl,dX (by omega) _ _,rfl,fU _ _⟩
 rintro hB ⟨x,nB,gB⟩;clear A Q;have X:=x.wf U;have LB:=x.log.trans A6;have k:=(x.old _ (by omega)).trans V;have a7:=(x.old _ (by omega)).trans O;have B:=Jl L F.f126 F.f215 (h:={hB with log:=[]}) (.of X) d;rw[hd]at B;obtain⟨z,i,g,I,rfl⟩:=iJ hd;have W:=TS L F.f127 (h:={hB with log:=[]}) (.of X) (z:=z) I;have a8:bO 3 (bK 0 (ceL (eX z i)))=ceL (eX z i):=rfl;have Y:Nat.beq (bM (ceL (eX z i))) 3=true:=rfl;have lz:bN (ceL (eX z i)) (0+2)=some (.int .i64 ((z:Nat):Int)):=rfl;have e1:=jc (lu (s:=o) (i:=z) (by rw[ho.len];exact g));have m1:=QY (a:=o.getD z 0) (b:=2 ^ i) (ho.lB z) (uO I);have kw:=Dc (o:=o) (z:=z) (v:=Nat.lor (o.getD z 0) (2 ^ i)) (by rw[ho.len];exact g);rw[←wZ o I]at kw;have kc:(Nat.beq (bM (cellsOf (.int .u64 ((Nat.lor (o.getD z 0) (2 ^ i):Nat):Int)))) 1&&Nat.ble (0+z*1+1) (bM (us o))&&eG (cellsOf (.int .u64 ((Nat.lor (o.getD z 0) (2 ^ i):Nat):Int))))=true:=by
  rw[cA (us o),aB,ho.len,gh (by omega)];rfl
 clear V O B3 m;refine Y4 ?_;refine FW.pu B ?_;clear B;refine Y12 ?_;refine FW.puD W (by apply aC rfl;apply aG rfl (aq rfl (dV (by rfl) (by assumption) (by assumption)) (by exact dD _ _)) rfl;apply aG rfl (aq rfl (tY (by rfl) (by rfl) (by omega)) (by exact di _)) rfl;apply aG rfl (aq rfl (dV (by rfl) (by assumption) (by rfl)) (by exact dD _ _)) rfl;apply aG rfl (aq rfl (ez (by rfl)) (by exact di _)) rfl;exact aQ) ?_;clear W;refine Y2 ?_;refine iO (vs:=us o) (ws:=us (mS o (eX z i))) rfl rfl rfl (by rfl) (by rfl) (by rfl) k kc kw (by omega) (by(repeat apply aC rfl);exact aQ) ?_;refine Y3 ?_;refine⟨⟨_,YG,rfl⟩,λz g=> ?_, .inl ⟨rfl,λh5 hn t G=> ?_⟩⟩
 ·have M:z=q:=by
   rcases fk g with h|g
   ·exact h
   rw[LB]at g;cases g
  subst M;exact⟨K,by omega⟩
 ·refine⟨(t q ko no).trans (Heap.aP k),λz g u=> ?_,hn⟩;by_cases hl:z=l
  ·subst hl;rw[gl];exact G
  ·refine(t z g hl).trans ?_;rw[z5 u,x.old z (by omega)];exact(y z g hl).symm
variable{s:List Nat}
theorem jf{n:Nat}{c:Ce}(h:c∈aX s n):inG c=true:=by
 have:=Jv h;by_cases hc:inG c=true
 ·exact hc
 ·rw[gL hc]at this;cases this
variable{f:Ce->Ce}
theorem Ig(a:∀c,inG c=true->inG (f c)=true):IsS (iu f s):=rU λc b=>a c (jf b)
variable{h:Heap}
theorem Jt(F:Dr T)(hr:Rdy h)(hg:Tab h)(h2:0<h.next)(Q:IsS s)(E:∀c,inG c=true->inG (f c)=true)
 (ae:∀t:Heap,WF t→(∀z,z<h.next->t.get z=h.get z)->∀c,inG c=true->Pu T gf [ceV c,cap] {t with log:=[]} (ceV (f c))):
 Pu T 140 [sv s, .func (.func gf) #[] #[cap]] h (.tuple #[sv (iu f s), .bool true]):=by
 have hp:=F.cp.p;have I:=Ig (s:=s) E;refine .of hp F.f261 hr (by
  have h1:flat (sv (iu f s))=true:=iK _;show iY [sv (iu f s), .bool true]=true;simp only[iY,h1,cond_true];rfl) ?_
 have k8:=aL Q.len;have k9:=aV Q.len;have x0:Ext h (((((h.push (qt (cellsOf (sv s)))).push (qt (cellsOf (.func (.func gf) #[] #[cap])))).push (qt (aI 8 (.int .u64 0)))).push (qt [.bool false])).push (qt (aI 8 (.int .u64 0)))):=(((((Ext.refl h).push _).push _).push _).push _).push _;have gA:(((((h.push (qt (cellsOf (sv s)))).push (qt (cellsOf (.func (.func gf) #[] #[cap])))).push (qt (aI 8 (.int .u64 0)))).push (qt [.bool false])).push (qt (aI 8 (.int .u64 0)))).get h.next=some (qt (us s)):=YG
 have gB:(((((h.push (qt (cellsOf (sv s)))).push (qt (cellsOf (.func (.func gf) #[] #[cap])))).push (qt (aI 8 (.int .u64 0)))).push (qt [.bool false])).push (qt (aI 8 (.int .u64 0)))).get (h.next+1)=some (qt [.func (.func gf) #[] #[cap]]):=YG;have gC:(((((h.push (qt (cellsOf (sv s)))).push (qt (cellsOf (.func (.func gf) #[] #[cap])))).push (qt (aI 8 (.int .u64 0)))).push (qt [.bool false])).push (qt (aI 8 (.int .u64 0)))).get (h.next+2)=some (qt (us s0)):=YG;have gD:(((((h.push (qt (cellsOf (sv s)))).push (qt (cellsOf (.func (.func gf) #[] #[cap])))).push (qt (aI 8 (.int .u64 0)))).push (qt [.bool false])).push (qt (aI 8 (.int .u64 0)))).get (h.next+3)=some (qt [.bool false]):=YG;have gE:(((((h.push (qt (cellsOf (sv s)))).push (qt (cellsOf (.func (.func gf) #[] #[cap])))).push (qt (aI 8 (.int .u64 0)))).push (qt [.bool false])).push (qt (aI 8 (.int .u64 0)))).get (h.next+4)=some (qt (us s0)):=YG;have n0:(((((h.push (qt (cellsOf (sv s)))).push (qt (cellsOf (.func (.func gf) #[] #[cap])))).push (qt (aI 8 (.int .u64 0)))).push (qt [.bool false])).push (qt (aI 8 (.int .u64 0)))).next=h.next+5:=rfl
 refine Y9 ?_;generalize(((((h.push (qt (cellsOf (sv s)))).push (qt (cellsOf (.func (.func gf) #[] #[cap])))).push (qt (aI 8 (.int .u64 0)))).push (qt [.bool false])).push (qt (aI 8 (.int .u64 0))))=H at*;have W:=x0.wf hr.wf;have hL:=x0.log.trans hr.log;have C:=DQ F.cp (h:={H with log:=[]}) (.of W) Q;refine Y4 ?_;refine FW.al C (λv h' m q=>q) ?_;rintro _ k K ⟨q,rfl,O,q2,q3⟩;clear C;have q2:H.next<=q:=q2
 have i:=x0.trans K;have W1:=i.wf hr.wf;have Z:=i.log.trans hr.log;have n1:=K.next
 have u:=(K.old _ (by omega)).trans gB;have y:=(K.old _ (by omega)).trans gC;have A:=(K.old _ (by omega)).trans gD;have B:=(K.old _ (by omega)).trans gE;have a7:Tab k:=hg.ext i h2;clear gA gB gC gD gE;refine Y2 ?_;refine Bt (lo:=h.next+4) (P:=PXo k.next (h.next+4) k (.loop [(3, .pointer (some ⟨h.next+1,0,none⟩)),(4, .pointer (some ⟨h.next+2,0,none⟩)),(5, .pointer (some ⟨h.next+3,0,none⟩)),(6, .pointer (some ⟨h.next+4,0,none⟩)),(10,fnC q)] [11] vm vn 0 .normal) (λd=>us (lT f d)) (aX s 512)) (S:=λ_=>False) rfl (by rfl) (by rw[F.cp.f265];rfl) (by omega) (by omega) Z W1 ?_ (λH p=>⟨_,_,_,_,p.loop⟩) (λH p=>p.elim) ?_ (λ_ _ _ _ _ _ _ p=>p.elim)
 ·have Y:KT T (h.next+4) (k.next+1) k.next ceV (aX s 512) (λd t=>PXo k.next (h.next+4) k (.loop [(3, .pointer (some ⟨h.next+1,0,none⟩)),(4, .pointer (some ⟨h.next+2,0,none⟩)),(5, .pointer (some ⟨h.next+3,0,none⟩)),(6, .pointer (some ⟨h.next+4,0,none⟩)),(10,fnC q)] [11] vm vn 0 .normal) (λd=>us (lT f d)) d t∧IsS (lT f d)) (λ_=>False):=by
   refine⟨λdone x Hh hx a8 hN j=> ?_,λdone Ha Hb p n e=>⟨PXo.gu (by omega) done Ha Hb p.1 n e,p.2⟩,λ_ _ h=>h,λ_ h=>h.elim⟩;obtain⟨j,hd⟩:=j;have J:=jf hx
   refine FW.mono' (Js F a8 (lo:=h.next+4) (N:=k.next+1) (S:=λ_=>False) hd (d:=f x) (E x J) (bl _) (by omega) (by omega) (by omega) j.loop ((j.old _ (by omega) (by omega)).trans u)
    (λt w e=>ae t w (λz M=>(e z (by omega)).trans ((j.old z (by omega) (by omega)).trans (i.old z M))) x J) j.val) ?_
   rintro r' t ⟨r1,r2⟩;refine⟨r1,r2.imp (λ⟨e,g,o,_⟩=>⟨e,⟨λz M L=>(o z (by omega) L).trans (j.old z M L),(o _ (by omega) (by omega)).trans j.loop,?_⟩,?_⟩) id⟩
   ·rw[rV];exact g
   ·rw[rV];exact hd.mS (E x J)
  have G:=AH F.cp (.of (W1.push (.loop [(3, .pointer (some ⟨h.next+1,0,none⟩)),(4, .pointer (some ⟨h.next+2,0,none⟩)),(5, .pointer (some ⟨h.next+3,0,none⟩)),(6, .pointer (some ⟨h.next+4,0,none⟩)),(10,fnC q)] [11] vm vn 0 .normal))) (q0:=q) (l:=k.next) (N:=k.next+1) (lo:=h.next+4) Q (bl _) (by show h.next+4<=k.next+1;omega) (ec _) Y ((z4 (by omega)).trans O) (λd t j=>(j.1.old 0 (by omega) (by omega)).trans a7)
   ⟨⟨λz M _=>z4 M,z3 _ _,(z4 (by omega)).trans B⟩,Bf⟩
  exact CW.mono G λr h' ⟨a,v,b,c⟩=>⟨a,v,b,c.imp (λp=>p.1) id⟩
 intro h4 h5 k1 k2 k3 k4 k5 j;have D:=(k5 (h.next+4) (by omega)).trans j.val;have U:=(k5 (h.next+2) (by omega)).trans ((j.old _ (by omega) (by omega)).trans y);have V:=(k5 (h.next+3) (by omega)).trans ((j.old _ (by omega) (by omega)).trans A);unfold iu at*;generalize lT f (aX s 512)=z at*;have ck:=aV I.len;have X:=aL I.len;have aw:=bX z;have aE:(us z).length=8:=by rw[aB,I.len]
 have ar:=bX s0;have am:(us s0).length=8:=rfl;refine Y4 ?_;refine aF (bB (by rfl) (by rfl) (by assumption) (by assumption) (by assumption) (by exact bX _)) ?_;refine aF (je (by rfl) (by rfl) (by first|(simp(disch:=first|omega|(simp only[z1,z2];omega))only[z3,z4,z5,z6,z7,z1,z2,O,u,y,A,B,U,V,D];exact rfl)|fail) (by rfl) (by rfl)) ?_;refine y3 ?_;refine nT ?_;refine ah ?_ (bS (own:=true) (s:=1) (l:=us z) rfl ?_ ck X (rA (own:=true) (s:=1) (ws:=[.bool true]) (v:= .bool true) rfl ?_ rfl rfl)) rfl
 ·rw[Heap.au (by show h.next<=h.next+3;omega),Heap.au (by show h.next<=h.next+2;omega)];exact k1
 ·simp(disch:=first|omega|(simp only[z1,z2];omega))only[z3,z4,z5,z6,z7,z1,z2,O,u,y,A,B,U,V,D]
 ·simp(disch:=first|omega|(simp only[z1,z2];omega))only[z3,z4,z5,z6,z7,z1,z2,O,u,y,A,B,U,V,D];exact rfl
theorem Sd(F:Dr T)(hr:Rdy h){a t:Nat}(f:t<24)(g:h.get a=some (qt [.int .i64 (t:Nat)])){c:Ce}(e:inG c=true):Pu T 141 [ceV c, .pointer (some ⟨a,0,none⟩)] h (ceV (gi t c)):=by
 refine .of F.cp.p F.f262 hr rfl ?_;have i:=hr.wf.dS g;have W:WF ((h.push (qt (cellsOf (ceV c)))).push (qt [I.O,I.O,I.O])):=(hr.wf.push _).push _;have C:=Kn F.tu (.of W) (lC.1 e) f;have b:bO 3 (bK 0 (ceL (gi t c)))=ceL (gi t c):=rfl;generalize gi t c=d at*;refine Y8 ?_;refine FW.pu C ?_;refine Y3 ?_;refine ah ?_ (bS (own:=true) (s:=1) rfl ?_ b rfl rfl) rfl
 ·rw[Heap.au (by show h.next<=h.next+1;omega)];exact hr.log
 ·exact YG
def dM(s:List Nat)(t:Nat):List Nat:=iu (gi t) s
theorem nC{t:Nat}(c:Ce)(h:inG c=true):inG (gi t c)=true:=lC.2 ((lC.1 h).aav t)
theorem mV(s:List Nat)(t:Nat):IsS (dM s t):=Ig nC
theorem Se(F:Dr T)(hr:Rdy h)(v:Tab h)(q:0<h.next)(d:IsS s){t:Nat}(x:t<24):Pu T 122 [sv s, .int .i64 (t:Nat)] h (sv (dM s t)):=by
 refine .of F.cp.p F.f211 hr (iK _) ?_;have D:=aL d.len;have E:=aV d.len;have g:Ext h (((h.push (qt (cellsOf (sv s)))).push (qt (cellsOf (Value.int .i64 (t:Nat))))).push (qt (aI 8 (.int .u64 0)))):=(((Ext.refl h).push _).push _).push _;have A:(((h.push (qt (cellsOf (sv s)))).push (qt (cellsOf (Value.int .i64 (t:Nat))))).push (qt (aI 8 (.int .u64 0)))).get h.next=some (qt (us s)):=YG
 have o:(((h.push (qt (cellsOf (sv s)))).push (qt (cellsOf (Value.int .i64 (t:Nat))))).push (qt (aI 8 (.int .u64 0)))).get (h.next+1)=some (qt [.int .i64 (t:Nat)]):=YG;have B:(((h.push (qt (cellsOf (sv s)))).push (qt (cellsOf (Value.int .i64 (t:Nat))))).push (qt (aI 8 (.int .u64 0)))).get (h.next+2)=some (qt (us s0)):=YG;have G:(((h.push (qt (cellsOf (sv s)))).push (qt (cellsOf (Value.int .i64 (t:Nat))))).push (qt (aI 8 (.int .u64 0)))).next=h.next+3:=rfl
 refine Y5 ?_;generalize(((h.push (qt (cellsOf (sv s)))).push (qt (cellsOf (Value.int .i64 (t:Nat))))).push (qt (aI 8 (.int .u64 0))))=H at*;have W:=g.wf hr.wf;have r:=g.log.trans hr.log
 have C:=Jt F (h:={H with log:=[]}) (.of W) (show Tab H from v.ext g q) (by show 0<H.next;omega) d (gf:=141) (cap:= .pointer (some ⟨h.next+1,0,none⟩)) (f:=gi t) nC
  (λy w e c u=>Sd F (.of w) x ((e (h.next+1) (by show h.next+1<H.next;omega)).trans o) u)
 have a:=mV s t;unfold dM at*;generalize iu (gi t) s=z at*;have j:=aV a.len;have b:=aL a.len;have m:=bX z;have n:(us z).length=8:=by rw[aB,a.len]
 have k:=bX s0;have i:(us s0).length=8:=rfl;refine Y4 ?_;refine FW.pu C ?_;clear C;refine Y4 ?_;refine aF (bB (by rfl) (by rfl) YG (by assumption) (by assumption) (by exact bX _)) ?_;refine Y3 ?_;refine aF (bV (by rfl) YG (by assumption) (by assumption)) ?_;refine aF (bB (by rfl) (by rfl) YG (by assumption) (by assumption) (by exact bX _)) ?_;refine Y2 ?_;refine ah ?_ (bS (own:=true) (s:=1) (l:=us z) rfl ?_ j b rfl) rfl
 ·rw[Heap.au (by show h.next<=h.next+2;omega),Heap.au (by first|omega|(show h.next<=H.next;omega))];exact r
 ·exact YG
def shP(p:Nat)(k:Int):Nat:=if 0<=k then Nat.mod (Nat.shiftLeft p k.toNat) 18446744073709551616 else Nat.shiftRight p (-k).toNat
variable{p:Nat}
theorem Vj{k:Int}(a:p<U64):shP p k<U64:=by
 unfold shP;split
 ·exact Nat.mod_lt _ (by decide)
 ·exact xi (Nat.shiftRight_le _ _) a
def lP(s:List Nat)(a:Nat)(z k:Int):Nat->List Nat
 |0=>s0
 |n+1=>(lP s a z k n).set (((a+n:Nat):Int)+z).toNat (shP (s.getD (a+n) 0) k)
theorem oq{s:List Nat}(b:IsS s)(a:Nat)(z k:Int):∀n,IsS (lP s a z k n)
 |0=>Bf
 |n+1=>by
  have ih:=oq b a z k n;refine⟨by unfold lP;rw[ul];exact ih.len,λx c=> ?_⟩;unfold lP at c;rcases Fd c with h|h
  ·exact ih.lt x h
  ·rw[h];exact Vj (b.lB _)
def lY(s:List Nat)(b:Bx)(x y z:Int):List Nat:=lP s b.lo.z.toNat z (8*y+x) (b.hi.z-b.lo.z+1).toNat
theorem XY{n:Nat}(c:n<64):af .shl (.int .u64 (p:Nat)) (.int .i64 (n:Nat))=some (.int .u64 ((Nat.mod (Nat.shiftLeft p n) 18446744073709551616:Nat):Int)):=by
 have a:((n:Nat):Int)=Int.ofNat n:=rfl;have b:((p:Nat):Int)=Int.ofNat p:=rfl;rw[a,b];have:af .shl (.int .u64 (Int.ofNat p)) (.int .i64 (Int.ofNat n))=some (.int .u64 (.ofNat (Nat.mod (Nat.shiftLeft p (Nat.min n 64)) 18446744073709551616))):=rfl;rw[this,show Nat.min n 64=n from xr (by omega)];rfl
def psL(s:List Nat)(b:Bx):List Value:=us s++bxL b
def psV(s:List Nat)(b:Bx):Value:= .agg (psL s b).toArray
theorem Is{b:Bx}(a:IsS s)(j:Nat):bN (psL s b) (8+j)=bN (bxL b) j:=by
 rw[bW,bW];unfold psL;rw[gR (by rw[aB,a.len];omega),aB,a.len,BT]
theorem UX{b:Bx}(a:IsS s){i:Nat}(hi:i<8):bN (psL s b) (0+0+i*1)=some (.int .u64 ((s.getD i 0:Nat):Int)):=by
 rw[bW,show 0+0+i*1=i by omega];unfold psL;rw[hG (by rw[aB,a.len];omega)];unfold us;rw[xc,lu (by rw[a.len];exact hi)];rfl
structure Tf (T:Nat->Option an):Prop where
 p:aM T
 f212:T 123=some f212
variable{z:Int}
theorem Jr(F:Tf T)(hr:Rdy h)(I:IsS s){b:Bx}{x y:Int}(hx: -7<=x/\x<=7)(hy: -7<=y/\y<=7)(hz: -7<=z/\z<=7)(C:0<=b.lo.z/\b.lo.z<=7)(u:0<=b.hi.z/\b.hi.z<=7)(hl:0<=b.lo.z+z)(hh:b.hi.z+z<=7):
 Pu T 123 [psV s b, .int .i64 x, .int .i64 y, .int .i64 z] h (sv (lY s b x y z)):=by
 refine .of F.p F.f212 hr (iK _) ?_;unfold lY;have G:bxL b=[.int .i64 b.lo.x, .int .i64 b.lo.y, .int .i64 b.lo.z, .int .i64 b.hi.x, .int .i64 b.hi.y, .int .i64 b.hi.z]:=rfl;have Z:bN (psL s b) (0+8+0+2)=some (.int .i64 b.lo.z):=by rw[show 0+8+0+2=8+2 by omega,Is I];rfl
 have eB:bN (psL s b) (0+8+3+2)=some (.int .i64 b.hi.z):=by rw[show 0+8+3+2=8+5 by omega,Is I];rfl
 obtain⟨a,S⟩:=xl C.1;obtain⟨c,U⟩:=xl u.1;rw[S]at Z C hl;rw[U]at eB u hh;have eP:=λi hi=>UX (s:=s) (b:=b) I (i:=i) hi;have j:cellsOf (psV s b)=psL s b:=by show(psL s b).toArray.toList=_;simp
 have V:Ext h (((h.push (qt (cellsOf (psV s b)))).push (qt (aI 8 (.int .u64 0)))).push (qt (aI 8 (.int .u64 0)))):=(((Ext.refl h).push _).push _).push _;have gA:(((h.push (qt (cellsOf (psV s b)))).push (qt (aI 8 (.int .u64 0)))).push (qt (aI 8 (.int .u64 0)))).get h.next=some (qt (psL s b)):=by rw[j];(simp(disch:=first|omega|(simp only[z1,z2];omega))only[z3,z4,z5,z6,z7,z1,z2];done)
 have gB:(((h.push (qt (cellsOf (psV s b)))).push (qt (aI 8 (.int .u64 0)))).push (qt (aI 8 (.int .u64 0)))).get (h.next+1)=some (qt (us s0)):=YG;have gC:(((h.push (qt (cellsOf (psV s b)))).push (qt (aI 8 (.int .u64 0)))).push (qt (aI 8 (.int .u64 0)))).get (h.next+2)=some (qt (us s0)):=YG;have n0:(((h.push (qt (cellsOf (psV s b)))).push (qt (aI 8 (.int .u64 0)))).push (qt (aI 8 (.int .u64 0)))).next=h.next+3:=rfl
 refine Y7 ?_;generalize(((h.push (qt (cellsOf (psV s b)))).push (qt (aI 8 (.int .u64 0)))).push (qt (aI 8 (.int .u64 0))))=H at*;have hL:=V.log.trans hr.log;rw[S,U];have m1:vx 8 y (8*y):=AV (by omega) (by omega);have m2:zE (8*y) x (8*y+x):=gI (aU (by omega) (by omega));refine Y9 ?_
 refine bg (λm e O t=>∃n:Nat,(a+n<=c+1∨n=0)/\8-n=m/\e=[(1, .int .i64 x),(2, .int .i64 y),(3, .int .i64 z),(4, .pointer (some ⟨h.next,0,none⟩)),(8, .pointer (some ⟨h.next+1,0,none⟩)),(9, .pointer (some ⟨h.next+2,0,none⟩)),(10, .int .i64 ((a+n:Nat):Int))]/\O=[]/\Ext h t∧t.get h.next=some (qt (psL s b))/\t.get (h.next+1)=some (qt (us s0))/\t.get (h.next+2)=some (qt (us (lP s a z (8*y+x) n))))
  ⟨0, .inr rfl,rfl,rfl,rfl,V,gA,gB,gC⟩ ?_
 rintro m e O t ⟨n,hn,rfl,rfl,rfl,g,P,Q,r⟩;have d:=oq I a z (8*y+x) n;by_cases hlt:a+n<=c
 ·have m3:zp ((a+n:Nat):Int) c true:=eE (by omega);obtain⟨w,hw⟩:=xl (show 0<=((a+n:Nat):Int)+z by omega);have D:w<8:=by omega
  have m4:zE ((a+n:Nat):Int) z ((w:Nat):Int):=gI (by rw[aU (by omega) (by omega)];omega);have e1:=eP (a+n) (by omega);have f:lP s a z (8*y+x) (n+1)=(lP s a z (8*y+x) n).set w (shP (s.getD (a+n) 0) (8*y+x)):=by
   rw[lP,hw];rfl
  have a7:=g.next
  by_cases hk:0<=8*y+x
  ·obtain⟨k,A⟩:=xl hk;have B:k<64:=by omega
   rw[A]at m2 f d r⊢;have m5:zt ((k:Nat):Int) 0 true:=mO (by omega);have M:=XY (p:=s.getD (a+n) 0) B;have q:shP (s.getD (a+n) 0) ((k:Nat):Int)=Nat.mod (Nat.shiftLeft (s.getD (a+n) 0) k) 18446744073709551616:=by
    unfold shP;rw[if_pos (by omega)];rfl
   rw[←q]at M;have E:=Dc (o:=lP s a z ((k:Nat):Int) n) (z:=w) (v:=shP (s.getD (a+n) 0) ((k:Nat):Int)) (by rw[d.len];exact D);rw[←f]at E;have L:(Nat.beq (bM (cellsOf (.int .u64 ((shP (s.getD (a+n) 0) ((k:Nat):Int):Nat):Int)))) 1&&Nat.ble (0+w*1+1) (bM (us (lP s a z ((k:Nat):Int) n)))&&eG (cellsOf (.int .u64 ((shP (s.getD (a+n) 0) ((k:Nat):Int):Nat):Int))))=true:=by
    rw[cA (us _),aB,d.len,gh (by omega)];rfl
   have K:n<8:=by omega
   refine Y37 ?_;refine aF (je (by rfl) (by rfl) r L E) ?_;refine bH ?_;refine Y8 ?_;exact⟨8-(n+1),by omega,n+1, .inl (by omega),rfl,rfl,rfl,⟨g.next,(Heap.au (by omega)).trans g.log,λb G=>(z5 (by omega)).trans (g.old b G),λw=>(g.wf w).as (AS.wr h.next _ _ _)⟩,(z5 (by omega)).trans P,(z5 (by omega)).trans Q,Heap.aP r⟩
  ·obtain⟨k,A⟩:=xl (show 0<= -(8*y+x)by omega);have B:k<64:=by omega
   have m5:zt (8*y+x) 0 false:=pz (by omega);have m7:uW .neg (.int .i64 (8*y+x))=some (.int .i64 ((k:Nat):Int)):=by
    show some (Value.int .i64 (fZ .i64 (0-(8*y+x))))=_;rw[aU (by omega) (by omega)];congr 2;omega
   have M:af .shr (.int .u64 ((s.getD (a+n) 0:Nat):Int)) (.int .i64 ((k:Nat):Int))=_:=wm (a:=s.getD (a+n) 0) (n:=k) (by omega);have q:shP (s.getD (a+n) 0) (8*y+x)=Nat.shiftRight (s.getD (a+n) 0) k:=by
    unfold shP;rw[if_neg hk,show(-(8*y+x)).toNat=k by omega]
   rw[←q]at M;have E:=Dc (o:=lP s a z (8*y+x) n) (z:=w) (v:=shP (s.getD (a+n) 0) (8*y+x)) (by rw[d.len];exact D);rw[←f]at E;have L:(Nat.beq (bM (cellsOf (.int .u64 ((shP (s.getD (a+n) 0) (8*y+x):Nat):Int)))) 1&&Nat.ble (0+w*1+1) (bM (us (lP s a z (8*y+x) n)))&&eG (cellsOf (.int .u64 ((shP (s.getD (a+n) 0) (8*y+x):Nat):Int))))=true:=by
    rw[cA (us _),aB,d.len,gh (by omega)];rfl
   have K:n<8:=by omega
   refine Y35 ?_;refine aF (KX (by rfl) (by assumption)) ?_;refine Y2 ?_;refine aF (je (by rfl) (by rfl) r L E) ?_;refine bH ?_;refine Y8 ?_;exact⟨8-(n+1),by omega,n+1, .inl (by omega),rfl,rfl,rfl,⟨g.next,(Heap.au (by omega)).trans g.log,λb G=>(z5 (by omega)).trans (g.old b G),λw=>(g.wf w).as (AS.wr h.next _ _ _)⟩,(z5 (by omega)).trans P,(z5 (by omega)).trans Q,Heap.aP r⟩
 ·have m3:zp ((a+n:Nat):Int) c false:=ew (by omega);rw[show((a:Nat):Int).toNat=a by omega,show(((c:Nat):Int)-((a:Nat):Int)+1).toNat=n by omega];generalize lP s a z (8*y+x) n=o at*;have W:=aV d.len;have J:=aL d.len;have X:=bX o;have Y:(us o).length=8:=by rw[aB,d.len]
  have N:(us s0).length=8:=rfl;refine Y17 ?_;refine aF (bB (by rfl) (by rfl) (by assumption) (by assumption) (by assumption) (by exact bX _)) ?_;refine Y2 ?_;refine ah ?_ (bS (own:=true) (s:=1) (l:=us o) rfl ?_ W J rfl) rfl
  ·rw[Heap.au (by show h.next<=h.next+1;omega)];exact g.log.trans hr.log
  ·exact YG
structure S9 (T:Nat->Option an):Prop where
 p:aM T
 f188:T 93=some f188
 f254:T 124=some f254
def gX(s:List Nat):Nat:=(aX s 512).length
theorem uo(F:S9 T)(hr:Rdy h)(b:IsS s):Pu T 93 [sv s] h (.int .i64 ((gX s:Nat):Int)):=by
 refine .of F.p F.f188 hr rfl ?_;have o:=aL b.len;have q:=aV b.len;have W:=hr.wf.push (qt (cellsOf (sv s)));have j:=iW s 512;unfold gX;refine Y9 ?_;refine aF (bV (by rfl) YG (by assumption) (by assumption)) ?_;refine Y3 ?_
 refine bg (λm e f g=>∃z:Nat,z<=8/\8-z=m/\e=[(3, .int .i64 (((aX s (z*64)).length:Nat):Int)),(6,sv s),(7, .int .i64 (z:Nat))]/\f=[]/\h.push (qt (cellsOf (sv s)))=g)
  ⟨0,by omega,rfl,rfl,rfl,rfl⟩ ?_
 rintro m e f g ⟨z,l,rfl,rfl,rfl,rfl⟩;by_cases hz:z<8
 ·have n:bN (us s).toArray.toList (z*1)=some (.int .u64 ((s.getD z 0:Nat):Int)):=by
   rw[HR,xf,bW];unfold us;rw[xc,lu (by rw[b.len];exact hz)];rfl
  have C:=Rq F.p F.f254 (.of W) (b.lB z);have a:=nH s hz;have k:=iW s (z*64);have d:(tB s z).length=(bitsOf (s.getD z 0)).length:=by unfold tB;rw[hS]
  have i:(bitsOf (s.getD z 0)).length<=64:=by
   unfold bitsOf;exact ed (PP ..) (by simp)
  have r:zE (((aX s (z*64)).length:Nat):Int) (((bitsOf (s.getD z 0)).length:Nat):Int) (((aX s ((z+1)*64)).length:Nat):Int):=by
   rw[a,eA,d];exact gI (by rw[aU (by omega) (by omega)];omega)
  generalize(bitsOf (s.getD z 0)).length=c3 at*;refine Y10 ?_;refine aF (FP (by rfl) (by rfl) (by omega) (by assumption)) ?_;refine Y6 ?_;refine FW.pu C ?_;clear C;refine Y2 ?_;refine bH ?_;refine Y7 ?_;exact⟨8-(z+1),by omega,z+1,by omega,rfl,rfl,rfl,rfl⟩
 ·obtain rfl:z=8:=by omega
  rw[show 8*64=512 from rfl];generalize(aX s 512).length=c at*;refine Y15 ?_;exact ah hr.log rfl rfl
structure Fi where
 t:Nat
 x:Int
 y:Int
 z:Int
 s:List Nat
def moV(t x y z:Int):Value:= .agg #[.int .i64 t, .int .i64 x, .int .i64 y, .int .i64 z]
def fiV(f:Fi):List Value:=[moV f.t f.x f.y f.z,sv f.s]
def zrN(lo:Int)(n:Nat):List Int:=(List.range n).map λi=>lo+(i:Nat)
theorem PT(lo:Int)(n:Nat):zrN lo (n+1)=zrN lo n++[lo+(n:Nat)]:=by unfold zrN;rw[PH,wx];rfl
def zr(lo hi:Int):List Int:=zrN lo (hi-lo+1).toNat
def wJ(a p:List Nat)(bp:Bx)(t:Nat)(z y x:Int):List Fi:=if sIn (lY p bp x y z) a then [⟨t,x,y,z,lY p bp x y z⟩]else []
def vq(a p:List Nat)(ra bp:Bx)(t:Nat)(z y:Int):List Fi:=(zr (ra.lo.x-bp.lo.x) (ra.hi.x-bp.hi.x)).flatMap (wJ a p bp t z y)
def yc(a p:List Nat)(ra bp:Bx)(t:Nat)(z:Int):List Fi:=(zr (ra.lo.y-bp.lo.y) (ra.hi.y-bp.hi.y)).flatMap (vq a p ra bp t z)
def Ja(a p:List Nat)(ra bp:Bx)(t:Nat):List Fi:=(zr (ra.lo.z-bp.lo.z) (ra.hi.z-bp.hi.z)).flatMap (yc a p ra bp t)
def qn(a b:List Nat)(t:Nat):List Fi:=Ja a (dM b t) (bY a).1 (bY (dM b t)).1 t
def jm(a b:List Nat):List Fi:=if a=s0∨gX a<gX b then []else(List.range 24).flatMap (qn a b)
structure FN (b:Bx):Prop where
 lo:InB b.lo
 hi:InB b.hi
theorem Na{a b:Int}(c:0<=a/\a<=7)(hb:0<=b/\b<=7):0<=mi a b/\mi a b<=7:=by unfold mi;split<;>assumption
theorem Nc{a b:Int}(c:0<=a/\a<=7)(hb:0<=b/\b<=7):0<=mx a b/\mx a b<=7:=by unfold mx;split<;>assumption
theorem FN.up{b:Bx}(h:FN b){c:Ce}(a:InB c):FN (p8 b c):=
 ⟨⟨Na h.lo.x a.x,Na h.lo.y a.y,Na h.lo.z a.z⟩,⟨Nc h.hi.x a.x,Nc h.hi.y a.y,Nc h.hi.z a.z⟩⟩
theorem TU:∀{l:List Ce},(∀c∈l,InB c)->FN (bxS l):=by
 intro l;have:∀(l:List Ce) (b:Bx),FN b->(∀c∈l,InB c)->FN (l.foldl p8 b):=by
  intro l;induction l with
  |nil=>intro b d _;exact d
  |cons c l ih=>intro b d a;exact ih _ (d.up (a c bx)) λx e=>a x (bu _ e)
 exact λa=>this l bx0 ⟨⟨by decide,by decide,by decide⟩,⟨by decide,by decide,by decide⟩⟩ a
theorem iA(s:List Nat):FN (bY s).1:=by
 unfold bY;split
 ·exact⟨⟨by decide,by decide,by decide⟩,⟨by decide,by decide,by decide⟩⟩
 ·exact TU λc a=>lC.1 (jf a)
structure Tc (T:Nat->Option an):Prop where
 mp:Dr T
 bd:S8 T
 li:Tf T
 co:S9 T
 f35:T 49=some f35
 f121:T 87=some f121
 f209:T 120=some f209
def wH:Bx:=⟨c0,c0⟩
theorem Qu{e:Env}{x:Operand}(a:IsS s)(f:ev h e x=some (sv s)):j6 h e [.int .u64 0, .int .u64 0, .int .u64 0, .int .u64 0, .int .u64 0, .int .u64 0, .int .u64 0, .int .u64 0,I.O,I.O,I.O,I.O,I.O,I.O] [(0,8,x)]=some (psL s wH):=by
 have b:cellsOf (sv s)=us s:=by show(us s).toArray.toList=_;simp
 have h0:psL s0 wH=[.int .u64 0, .int .u64 0, .int .u64 0, .int .u64 0, .int .u64 0, .int .u64 0, .int .u64 0, .int .u64 0,I.O,I.O,I.O,I.O,I.O,I.O]:=rfl;have c:dy (psL s0 wH) 0 (us s)=psL s wH:=by
  rw[fQ (by rw[aB,a.len];decide),aB,a.len,Ok];rfl
 have d:bM (us s)=8:=by rw[cA,aB,a.len]
 rw[←h0];have g:(Nat.beq 8 8&&Nat.ble (0+8) (bM (psL s0 wH)))=true:=rfl;simp only[j6,f,b,c,d];rfl
theorem Cr{b:Bx}(a:IsS s):(psL s b).length=14:=by
 unfold psL;rw[eA,aB,a.len];rfl
theorem RG{b:Bx}(a:IsS s):bO 14 (bK 0 (psL s b))=psL s b:=by rw[bk,aR,tb,dn (by rw[Cr a];omega)]
theorem Of{b:Bx}(a:IsS s):Nat.beq (bM (psL s b)) 14=true:=by rw[cA,Cr a];rfl
theorem Og{b:Bx}:eG (psL s b)=true:=mR (bX _) rfl
theorem Yb{b:Bx}(a:IsS s):bO 8 (bK (0+0) (psL s b))=us s:=by
 rw[bk,aR,j3,tb];unfold psL;rw[hX (by rw[aB,a.len];omega),dn (by rw[aB,a.len];omega)]
theorem UY{b b':Bx}(a:IsS s):dy (psL s b) (0+8) (cellsOf (bxV b'))=psL s b':=by
 show dy (psL s b) 8 (bxL b')=_;unfold psL;rw[fQ (by rw[eA,aB,a.len];exact bl _),hX (by rw[aB,a.len];omega),dn (by rw[aB,a.len];omega),wc (by rw[eA,aB,a.len];exact bl _)];simp
theorem UW{b:Bx}(a:IsS s):bO 3 (bK (0+8+0) (psL s b))=ceL b.lo:=by
 rw[bk,aR];unfold psL;rw[show 0+8+0=(us s).length by rw[aB,a.len],List.drop_left];rfl
theorem UU{b:Bx}(a:IsS s):bO 3 (bK (0+8+3) (psL s b))=ceL b.hi:=by
 rw[bk,aR];unfold psL;rw[List.drop_append,aB,a.len,wc (by rw[aB,a.len];omega)];rfl
structure FxK (P:List Fi->Heap->Prop) (lo:Nat) (h0:Heap) (q:Nat) (rm bp:Bx) (p:List Nat) (D:List Fi) (g:Heap):Prop where
 k:Lk lo h0 g
 pd:P D g
 nx:q+2<g.next
 g4:g.get h0.next=some (qt (bxL rm))
 g7:g.get q=some (qt (psL p bp))
 g8:g.get (q+1)=some (qt (ceL bp.lo))
 g9:g.get (q+2)=some (qt (ceL bp.hi))
variable{hi lo:Int}
theorem Dp{n:Nat}(h:z=lo+(n:Nat))(a:z<=hi):z∈zr lo hi:=List.mem_map.2 ⟨n,List.mem_range.2 (by omega),h.symm⟩
theorem Ag{α:Type}(lo:Int)(n:Nat)(f:Int->List α)(h:z=lo+(n:Nat)):(zrN lo (n+1)).flatMap f=(zrN lo n).flatMap f++f z:=by
 rw[PT,List.flatMap_append,h];simp
theorem CI{n:Nat}(h1:n=0∨lo+(n:Nat)<=hi+1)(a:hi<lo+(n:Nat)):n=(hi-lo+1).toNat:=by omega
end Go.A.Pk
end
section
namespace Go.A.Pk
variable {T:Nat->Option an}
structure FxL (P:List Fi->Heap->Prop) (W:Heap->Nat->Prop) (lo:Nat) (h0:Heap) (q0 q:Nat) (rm bp:Bx) (p:List Nat) (D:List Fi) (g:Heap):Prop where
 k:Lk lo h0 g
 pd:P D g
 dm:((∀x,x<h0.next->g.get x=h0.get x)/\P D h0)∨q0∈g.log/\mE g q0
 nx:q+2<g.next
 g4:g.get h0.next=some (qt (bxL rm))
 g7:g.get q=some (qt (psL p bp))
 g8:g.get (q+1)=some (qt (ceL bp.lo))
 g9:g.get (q+2)=some (qt (ceL bp.hi))
 w4:¬W g h0.next
 w7:¬W g q
 w8:¬W g (q+1)
 w9:¬W g (q+2)
theorem LL{P:List Fi->Heap->Prop}{d:Heap}{q0:Nat}{D:List Fi}{g e:Heap}(h:q0<d.next)(j:d.next<=g.next)(f:((∀x,x<d.next->g.get x=d.get x)/\P D d)∨q0∈g.log/\mE g q0)(x:Ext g e):((∀x,x<d.next->e.get x=d.get x)/\P D d)∨q0∈e.log/\mE e q0:=by
 rcases f with⟨a,b⟩|⟨a,vs,own,t,b,c⟩
 ·exact .inl ⟨λz i=>(x.old z (by omega)).trans (a z i),b⟩
 ·exact .inr ⟨by rw[x.log];exact a,vs,own,t,(x.old _ (by omega)).trans b,c⟩
section
variable {lo N l q0:Nat} {all:List Fi} {P:List Fi->Heap->Prop} {W:Heap->Nat->Prop} {h0:Heap} {q:Nat} {rm bp:Bx} {p:List Nat} {D D':List Fi} {g g':Heap}
theorem FxL.ext(Y:IW T lo N l q0 fiV all P W)(f:FxL P W lo h0 q0 q rm bp p D g)(x:Ext g g')(b:lo<=g.next)(c:q0<h0.next)(i:h0.next<q):FxL P W lo h0 q0 q rm bp p D g':=by
 have d:=x.next
 have h:=f.nx;have a:∀z,¬W g z->¬W g' z:=λz e q=>e (Y.wst _ _ _ f.pd d x.old z q);exact⟨f.k.trans (x.lk b),Y.gu _ _ _ f.pd d x.old,LL c f.k.next f.dm x,by omega,(x.old _ (by omega)).trans f.g4,(x.old _ (by omega)).trans f.g7,(x.old _ (by omega)).trans f.g8,(x.old _ (by omega)).trans f.g9,a _ f.w4,a _ f.w7,a _ f.w8,a _ f.w9⟩
theorem FxL.step(f:FxL P W lo h0 q0 q rm bp p D g)(x:Lk lo g g')(d:q0∈g'.log/\mE g' q0)(c:P D' g')(b:∀z,z<g.next->¬W g z->g'.get z=g.get z)(h:∀z,W g' z->W g z∨g.next<=z)(l:h0.next<q):FxL P W lo h0 q0 q rm bp p D' g':=by
 have i:=x.next
 have j:=f.nx;have a:∀z,z<g.next->¬W g z->¬W g' z:=λz m e q=>(h z q).elim e λq=>by omega
 exact⟨f.k.trans x,c, .inr d,by omega,(b _ (by omega) f.w4).trans f.g4,(b _ (by omega) f.w7).trans f.g7,(b _ (by omega) f.w8).trans f.g8,(b _ (by omega) f.w9).trans f.g9,a _ (by omega) f.w4,a _ (by omega) f.w7,a _ (by omega) f.w8,a _ (by omega) f.w9⟩
end
theorem Jb{α:Type}{D:List Fi}{L:List α}{n:Nat}(h:D.length<=n){f:Fi}:(D++[f]).length<=n+1:=by rw[eA];exact Nat.succ_le_succ h
variable{h:Heap}{a b:List Nat}
theorem L8(F:Tc T)(hr:Rdy h){qa qb l q0 N lo:Nat}(ha:IsS a)(hb:IsS b){P:List Fi->Heap->Prop}{W:Heap->Nat->Prop}(hN:N<=h.next)(eI:lo<=h.next)(ge:0<N)
 (Y:IW T lo N l q0 fiV (jm a b) P W)
 (ga:∀d H,P d H->H.get qa=some (qt (us a)))(gb:∀d H,P d H->H.get qb=some (qt (us b)))(M:∀d H,P d H->Tab H)(h0:P [] h):
 Gr T 120 [.func (.yield l) #[] #[], .pointer (some ⟨qa,0,none⟩), .pointer (some ⟨qb,0,none⟩)] h lo λv c=>v= .tuple #[]/\P (jm a b) c:=by
 have hp:=F.li.p;have i9:=aL ha.len;have ib:=aV ha.len;have ie:=aL hb.len;have ii:=aV hb.len;have a7:q0<h.next:=kz Y.hq hN
 refine Gr.ofK hp F.f209 eI (λv h1 hA p=>ME Y a7 hA p) ?_;have C0:=AF F.bd (h:={h with log:=[]}) (.of hr.wf) (show Tab h from M _ _ h0) (by show 0<h.next;omega) ha;have gA:=ga _ _ h0;unfold IY at C0;have aE:(bY a).2= !decide (a=s0):=by
  unfold bY;by_cases he:a=s0
  ·rw[if_pos he,decide_eq_true he];rfl
  ·rw[if_neg he,decide_eq_false he];rfl
 have E:=iA a;have dv:∀t,qn a b t=Ja a (dM b t) (bY a).1 (bY (dM b t)).1 t:=λ_=>rfl;rw[aE]at C0;generalize(bY a).1=rm at*;refine dw (E0:=[(0, .func (.yield l) #[] #[]),(1, sb qa),(2, sb qb),(4, sb h.next),(5, .bool (!decide (a=s0)))]) (P:=λc=>Ext h c∧c.next=h.next+1/\c.get h.next=some (qt (bxL rm))) ?_ ?_
 ·refine Y3 ?_;refine FW.pu C0 ?_;refine Y6 ?_;refine bH ?_;refine y1 ?_;exact⟨rfl,rfl,rfl,dX (by omega) _ _,rfl,fU _ _⟩
 clear C0;rintro H1 ⟨r,n1,q1⟩;have W1:=r.wf hr.wf;have bo:=r.log.trans hr.log;have X:Lk lo h H1:=⟨r.next,λhh=>by rw[bo];exact fF.nil _,λz hz=>r.old z (by omega),r.wf⟩;have u:P [] H1:=Y.gu _ _ _ h0 r.next r.old
 have B:((∀x,x<h.next->H1.get x=h.get x)/\P [] h)∨q0∈H1.log/\mE H1 q0:= .inl ⟨r.old,h0⟩;have d8:¬W H1 h.next:=λq=>ui _ (Y.wlt _ _ _ h0 (Y.wst _ _ _ h0 r.next r.old _ q))
 have db:=ga _ _ u;have dj:=gb _ _ u;clear gA;by_cases he:a=s0
 ·have hf:jm a b=[]:=if_pos (.inl he);rw[hf,decide_eq_true he];refine Y18 ?_;exact D9 (X.log (by rw[hr.log];exact fF.nil _)) rfl ⟨rfl,u,B⟩
 rw[decide_eq_false he];have C1:=uo F.co (h:={H1 with log:=[]}) (.of W1) hb;have C2:=uo F.co (h:={H1 with log:=[]}) (.of W1) ha;by_cases hcn:gX a<gX b
 ·have hf:jm a b=[]:=if_pos (.inr hcn);rw[hf];have m1:zs ((gX b:Nat):Int) ((gX a:Nat):Int) true:=dY (by omega);refine Y9 ?_;refine FW.puD C1 (by apply aG rfl (aq rfl (bV (by rfl) (by assumption) (by assumption) (by assumption)) (by exact rK _)) rfl;(repeat apply aC rfl);exact aQ) ?_;skip;refine qC ?_;refine FW.puD C2 (by apply aC rfl;exact aQ) ?_;refine Y8 ?_;exact D9 (X.log (by rw[hr.log];exact fF.nil _)) rfl ⟨rfl,u,B⟩
 have hf:jm a b=(List.range 24).flatMap (qn a b):=if_neg (λq=>q.elim he hcn);have m1:zs ((gX b:Nat):Int) ((gX a:Nat):Int) false:=fu (by omega);refine Y9 ?_;refine FW.puD C1 (by apply aG rfl (aq rfl (bV (by rfl) (by assumption) (by assumption) (by assumption)) (by exact rK _)) rfl;(repeat apply aC rfl);exact aQ) ?_;skip;refine qC ?_;refine FW.puD C2 (by apply aC rfl;exact aQ) ?_;clear C1 C2;refine Y12 ?_
 refine bg (λk e I c=>∃t:Nat,t<=24/\24-t=k/\e=[(0, .func (.yield l) #[] #[]),(1, .pointer (some ⟨qa,0,none⟩)),(2, .pointer (some ⟨qb,0,none⟩)),(4, .pointer (some ⟨h.next,0,none⟩)),(28, .int .i64 (t:Nat))]/\I=[]/\Lk lo h c∧P ((List.range t).flatMap (qn a b)) c∧h.next<c.next/\c.get h.next=some (qt (bxL rm))/\(((∀x,x<h.next->c.get x=h.get x)/\P ((List.range t).flatMap (qn a b)) h)∨q0∈c.log/\mE c q0)/\¬W c h.next/\((List.range t).flatMap (qn a b)).length<=t*4096)
  ⟨0,gK _,rfl,rfl,rfl,X,u,by omega,q1,B,d8,gK _⟩ ?_
 clear u db dj q1 X W1 bo r n1 B d8;rintro k e I G ⟨t,fw,rfl,rfl,rfl,hk,U,aw,g4,V,d9,eh⟩;have WG:=hk.wf hr.wf;by_cases ht:t<24
 ·have m:=mV b t;have A:=iA (dM b t);have D1:=Se F.mp (h:={G with log:=[]}) (.of WG) (show Tab G from M _ _ U) (by show 0<G.next;omega) hb ht;have gB:=gb _ _ U;have hT:(List.range (t+1)).flatMap (qn a b)=(List.range t).flatMap (qn a b)++qn a b t:=by rw[PH,List.flatMap_append];simp
  have K:∀f∈qn a b t,f∈jm a b:=λf du=>by
   rw[hf];exact List.mem_flatMap.2 ⟨t,List.mem_range.2 ht,du⟩
  rw[dv t]at hT K;generalize(List.range t).flatMap (qn a b)=D at*;generalize hbb:bY (dM b t)=bb at*;generalize dM b t=p at*;obtain⟨bp,fb⟩:=bb;dsimp only at A hT K;have f0:=aL m.len;have ae:=Cr (b:=wH) m;have ba:=Og (s:=p) (b:=wH);refine Y13 ?_;refine dw (E0:=[(0, .func (.yield l) #[] #[]),(1, sb qa),(2, sb qb),(4, sb h.next),(6, zc (t:Nat)),(7, sb G.next),(28, zc (t:Nat))]) (P:=λc=>Ext G c∧c.next=G.next+1/\c.get G.next=some (qt (psL p wH))) ?_ ?_
  ·refine Y4 ?_;refine FW.pu D1 ?_;skip;refine aF (oO (Qu m (by rfl))) ?_;refine aF (sG) ?_;refine aF (bB (by rfl) (by rfl) YG (by assumption) (by rfl) (by assumption)) ?_;refine bH ?_;refine y1 ?_;exact⟨rfl,rfl,rfl,dX (by omega) _ _,rfl,fU _ _⟩
  clear D1;rintro G1 ⟨r,n1,q1⟩;have bj:=r.wf WG;have u:P D G1:=Y.gu _ _ _ U r.next r.old
  have D2:=AF F.bd (h:={G1 with log:=[]}) (.of bj) (show Tab G1 from M _ _ u) (by show 0<G1.next;omega) m;rw[hbb]at D2;unfold IY at D2;dsimp only at D2;have ks:=Yb (b:=wH) m;have ku:=UY (b:=wH) (b':=bp) m;have da:(Nat.beq (bM (cellsOf (bxV bp))) 6&&Nat.ble (0+8+6) (bM (psL p wH))&&eG (cellsOf (bxV bp)))=true:=by
   rw[cA (psL p wH),ae];rfl
  refine dw (E0:=[(0, .func (.yield l) #[] #[]),(1, sb qa),(2, sb qb),(4, sb h.next),(6, zc (t:Nat)),(7, sb G.next),(28, zc (t:Nat))]) (P:=λc=>Ext G c∧c.next=G.next+1/\c.get G.next=some (qt (psL p bp))) ?_ ?_
  ·refine Y4 ?_;refine FW.pu D2 ?_;refine Y4 ?_;refine aF (je (by rfl) (by rfl) q1 da ku) ?_;refine bH ?_;refine y1 ?_;exact⟨rfl,rfl,rfl,⟨r.next,(Heap.au (by omega)).trans r.log,λb hb=>(z5 (by omega)).trans (r.old b hb),λw=>(r.wf w).as (AS.wr h.next _ _ _)⟩,n1,Heap.aP q1⟩
  clear D2 q1 u bj n1 r;rintro S ⟨x2,n2,q2⟩;have kl:=UW (b:=bp) m;have kh:=UU (b:=bp) m;have cl:Nat.beq (bM (ceL bp.lo)) 3=true:=rfl;have ch:Nat.beq (bM (ceL bp.hi)) 3=true:=rfl;refine dw (E0:=[(0, .func (.yield l) #[] #[]),(1, sb qa),(2, sb qb),(4, sb h.next),(6, zc (t:Nat)),(7, sb G.next),(8, sb S.next),(9, sb (S.next+1)),(28, zc (t:Nat))]) (P:=λc=>Ext G c∧c.next=S.next+2/\c.get G.next=some (qt (psL p bp))/\c.get S.next=some (qt (ceL bp.lo))/\c.get (S.next+1)=some (qt (ceL bp.hi))) ?_ ?_
  ·refine Y3 ?_;refine qZ9 (b:=bV (by rfl) (by assumption) (by assumption) (by rfl)) (H:=?_);refine Y2 ?_;refine qZ9 (b:=bV (by rfl) (by assumption) (by assumption) (by rfl)) (H:=?_);refine rL rfl rfl rfl (by rfl) (by rfl) (by rfl) sG (by refine cm (aq rfl (bV (by rfl) YG (by assumption) (by rfl)) (by refine jQ ?_;refine cu (eW _ _) ?_;refine cu (eW _ _) ?_;exact cu (eW _ _) (by assumption))) ?_;refine cm (aq rfl (ez (by rfl)) (by exact di _)) ?_;refine cm (aq rfl (ez (by rfl)) (by exact di _)) ?_;refine cm (aq rfl (bV (by rfl) YG (by assumption) (by rfl)) (by refine jQ ?_;refine cu (eW _ _) ?_;refine cu (eW _ _) ?_;exact cu (eW _ _) (by assumption))) ?_;refine cm (aq rfl (ez (by rfl)) (by exact di _)) ?_;refine cm (aq rfl (ez (by rfl)) (by exact di _)) ?_;exact rD) ?_;refine rL rfl rfl rfl (by rfl) (by rfl) (by rfl) sG (by refine cm (xb rfl) ?_;refine cm (aq rfl (bV (by rfl) YG (by assumption) (by rfl)) (by refine jQ ?_;refine cu (eW _ _) ?_;refine cu (eW _ _) ?_;exact cu (eW _ _) (by assumption))) ?_;refine cm (aq rfl (ez (by rfl)) (by exact di _)) ?_;refine cm (aq rfl (ez (by rfl)) (by exact di _)) ?_;refine cm (aq rfl (bV (by rfl) YG (by assumption) (by rfl)) (by refine jQ ?_;refine cu (eW _ _) ?_;refine cu (eW _ _) ?_;exact cu (eW _ _) (by assumption))) ?_;refine cm (aq rfl (ez (by rfl)) (by exact di _)) ?_;refine cm (aq rfl (ez (by rfl)) (by exact di _)) ?_;exact rD) ?_;refine jG rfl rfl rfl (by rfl) (by rfl) (by rfl) YG (by rfl) (by rfl) (by(simp only[z1,z2];omega)) (by omega) (by(repeat apply aC rfl);apply aG rfl (aq rfl (bV (by rfl) YG (by assumption) (by rfl)) (by refine jQ ?_;refine cu (eW _ _) ?_;refine cu (eW _ _) ?_;exact cu (eW _ _) (by assumption))) rfl;apply aG rfl (aq rfl (ez (by rfl)) (by exact di _)) rfl;apply aG rfl (aq rfl (ez (by rfl)) (by exact di _)) rfl;(repeat apply aC rfl);exact aQ) ?_;refine jG rfl rfl rfl (by rfl) (by rfl) (by rfl) YG (by rfl) (by rfl) (by(simp only[z1,z2];omega)) (by(simp only[z1,z2];omega)) (by(repeat apply aC rfl);exact aQ) ?_;refine Y2 ?_;refine⟨rfl,rfl,rfl,⟨by show G.next<=S.next+2;omega,by rw[Heap.au (by show h.next<=S.next+1;omega),Heap.au (by omega)];exact x2.log,λb hb=>by
    rw[z5 (by show b≠S.next+1;omega),z5 (by omega),z4 (by show b<S.next+1;omega),z4 (by omega)];exact x2.old b hb,λw=>((((x2.wf w).push _).push _).as (AS.wr _ _ _ _)).as (AS.wr _ _ _ _)⟩,rfl,?_,?_,?_⟩
   ·exact YG
   ·exact YG
   ·exact YG
  rintro G3 ⟨x3,n3,q3,q8,Q⟩;rw[n2]at n3 q8 Q⊢;have cj:Lk lo h G3:=hk.trans (x3.lk (by have:=hk.next;omega));have cf:P D G3:=Y.gu _ _ _ U x3.next x3.old
  have O:∀z,W G3 z->W G z:=Y.wst _ _ _ U x3.next x3.old
  have a8:∀z,W G z->z<G.next:=λz=>Y.wlt _ _ z U
  have g:FxL P W lo h q0 G.next rm bp p D G3:=⟨cj,cf,LL a7 hk.next V x3,by omega,(x3.old _ aw).trans g4,q3,q8,Q,λq=>d9 (O _ q),λq=>absurd (a8 _ (O _ q)) (by omega),λq=>absurd (a8 _ (O _ q)) (by omega),λq=>absurd (a8 _ (O _ q)) (by omega)⟩
  have hZ:N<=G.next:=by have:=hk.next;omega
  have cY:h.next<G.next:=aw
  clear q2 x2 n2 q3 q8 Q cj cf x3 n3 g4 aw U hk gB O a8 d9 V ks ku da f0 ae ba kl kh cl ch WG;generalize G.next=q at*
  have i0:=E.lo.x;have i4:=E.hi.x;have i5:=E.lo.y;have i6:=E.hi.y;have i7:=E.lo.z;have i8:=E.hi.z;have ip:=A.lo.x;have jp:=A.hi.x;have ju:=A.lo.y;have jz:=A.hi.y;have f8:=A.lo.z;have f9:=A.hi.z;have lf:vd rm.lo.z bp.lo.z (rm.lo.z-bp.lo.z):=kg (aU (by omega) (by omega));have lh:vd rm.hi.z bp.hi.z (rm.hi.z-bp.hi.z):=kg (aU (by omega) (by omega));have lc:vd rm.lo.y bp.lo.y (rm.lo.y-bp.lo.y):=kg (aU (by omega) (by omega));have ld:vd rm.hi.y bp.hi.y (rm.hi.y-bp.hi.y):=kg (aU (by omega) (by omega));have kd:vd rm.lo.x bp.lo.x (rm.lo.x-bp.lo.x):=kg (aU (by omega) (by omega));have ke:vd rm.hi.x bp.hi.x (rm.hi.x-bp.hi.x):=kg (aU (by omega) (by omega));have q4:=g.g4;have q8:=g.g8;refine Y10 ?_
  refine bg (λk e I c=>∃(n:Nat) (z:Int),z=rm.lo.z-bp.lo.z+(n:Nat)/\(n=0∨z<=rm.hi.z-bp.hi.z+1)/\16-n=k/\e=[(0, .func (.yield l) #[] #[]),(1, .pointer (some ⟨qa,0,none⟩)),(2, .pointer (some ⟨qb,0,none⟩)),(4, .pointer (some ⟨h.next,0,none⟩)),(6, .int .i64 (t:Nat)),(7, .pointer (some ⟨q,0,none⟩)),(8, .pointer (some ⟨q+1,0,none⟩)),(9, .pointer (some ⟨q+1+1,0,none⟩)),(10, .int .i64 z),(28, .int .i64 (t:Nat))]/\I=[]/\FxL P W lo h q0 q rm bp p (D++(zrN (rm.lo.z-bp.lo.z) n).flatMap (yc a p rm bp t)) c∧(D++(zrN (rm.lo.z-bp.lo.z) n).flatMap (yc a p rm bp t)).length<=t*4096+n*256)
   ⟨0,_,by simp, .inl rfl,rfl,rfl,rfl,by rw[show zrN (rm.lo.z-bp.lo.z) 0=[]from rfl,SG,md];exact g,by rw[show zrN (rm.lo.z-bp.lo.z) 0=[]from rfl,SG,md];exact ed eh (by omega)⟩ ?_
  clear g q4 q8;rintro k e I G ⟨n,z,hz,hn,rfl,rfl,rfl,g,ar⟩;have fj:n<16:=by omega
  by_cases hle:z<=rm.hi.z-bp.hi.z
  ·have lz:zp z (rm.hi.z-bp.hi.z) true:=eE hle;have az:zE z 1 (z+1):=gI (aU (by omega) (by omega));have mz:=Dp hz hle;have fz:=Ag (rm.lo.z-bp.lo.z) n (yc a p rm bp t) hz;have gt:yc a p rm bp t z=(zr (rm.lo.y-bp.lo.y) (rm.hi.y-bp.hi.y)).flatMap (vq a p rm bp t z):=rfl;have q4:=g.g4;have q8:=g.g8;have Q:=g.g9;generalize hDz:D++(zrN (rm.lo.z-bp.lo.z) n).flatMap (yc a p rm bp t)=Dz at*;refine Y26 ?_
   refine bg (λk e I c=>∃(j:Nat) (y:Int),y=rm.lo.y-bp.lo.y+(j:Nat)/\(j=0∨y<=rm.hi.y-bp.hi.y+1)/\16-j=k/\e=[(0, .func (.yield l) #[] #[]),(1, .pointer (some ⟨qa,0,none⟩)),(2, .pointer (some ⟨qb,0,none⟩)),(4, .pointer (some ⟨h.next,0,none⟩)),(6, .int .i64 (t:Nat)),(7, .pointer (some ⟨q,0,none⟩)),(8, .pointer (some ⟨q+1,0,none⟩)),(9, .pointer (some ⟨q+1+1,0,none⟩)),(10, .int .i64 z),(11, .int .i64 y),(28, .int .i64 (t:Nat))]/\I=[]/\FxL P W lo h q0 q rm bp p (Dz++(zrN (rm.lo.y-bp.lo.y) j).flatMap (vq a p rm bp t z)) c∧(Dz++(zrN (rm.lo.y-bp.lo.y) j).flatMap (vq a p rm bp t z)).length<=t*4096+n*256+j*16)
    ⟨0,_,by simp, .inl rfl,rfl,rfl,rfl,by rw[show zrN (rm.lo.y-bp.lo.y) 0=[]from rfl,SG,md];exact g,by rw[show zrN (rm.lo.y-bp.lo.y) 0=[]from rfl,SG,md];exact ed ar (by omega)⟩ ?_
   clear g q4 q8 Q;rintro k e I G ⟨j,y,hy,hj,rfl,rfl,rfl,g,cX⟩;have fg:j<16:=by omega
   have q4:=g.g4;have q8:=g.g8;have Q:=g.g9;by_cases hley:y<=rm.hi.y-bp.hi.y
   ·have ly:zp y (rm.hi.y-bp.hi.y) true:=eE hley;have ay:zE y 1 (y+1):=gI (aU (by omega) (by omega));have my:=Dp hy hley;have fy:=Ag (rm.lo.y-bp.lo.y) j (vq a p rm bp t z) hy;have gg:vq a p rm bp t z y=(zr (rm.lo.x-bp.lo.x) (rm.hi.x-bp.hi.x)).flatMap (wJ a p bp t z y):=rfl;generalize hDy:Dz++(zrN (rm.lo.y-bp.lo.y) j).flatMap (vq a p rm bp t z)=Dy at*;refine Y26 ?_
    refine bg (λk e I c=>∃(i:Nat) (x:Int),x=rm.lo.x-bp.lo.x+(i:Nat)/\(i=0∨x<=rm.hi.x-bp.hi.x+1)/\16-i=k/\e=[(0, .func (.yield l) #[] #[]),(1, .pointer (some ⟨qa,0,none⟩)),(2, .pointer (some ⟨qb,0,none⟩)),(4, .pointer (some ⟨h.next,0,none⟩)),(6, .int .i64 (t:Nat)),(7, .pointer (some ⟨q,0,none⟩)),(8, .pointer (some ⟨q+1,0,none⟩)),(9, .pointer (some ⟨q+1+1,0,none⟩)),(10, .int .i64 z),(11, .int .i64 y),(12, .int .i64 x),(28, .int .i64 (t:Nat))]/\I=[]/\FxL P W lo h q0 q rm bp p (Dy++(zrN (rm.lo.x-bp.lo.x) i).flatMap (wJ a p bp t z y)) c∧(Dy++(zrN (rm.lo.x-bp.lo.x) i).flatMap (wJ a p bp t z y)).length<=t*4096+n*256+j*16+i)
     ⟨0,_,by simp, .inl rfl,rfl,rfl,rfl,by rw[show zrN (rm.lo.x-bp.lo.x) 0=[]from rfl,SG,md];exact g,by rw[show zrN (rm.lo.x-bp.lo.x) 0=[]from rfl,SG,md];exact ed cX (by omega)⟩ ?_
    clear g q4 q8 Q;rintro k e I G ⟨i,x,hx,hi,rfl,rfl,rfl,g,cJ⟩;have fd:i<16:=by omega
    have q4:=g.g4;have Q:=g.g9;by_cases hlex:x<=rm.hi.x-bp.hi.x
    ·have lx:zp x (rm.hi.x-bp.hi.x) true:=eE hlex;have ax:zE x 1 (x+1):=gI (aU (by omega) (by omega));have f7:=Dp hx hlex;have fx:=Ag (rm.lo.x-bp.lo.x) i (wJ a p bp t z y) hx;have WG:=g.k.wf hr.wf;have hJ:=g.k.next
     have hY:=g.nx;have q7:=g.g7;have ka:=RG (b:=bp) m;have kl:=Of (b:=bp) m;have C3:=Jr F.li (h:={G with log:=[]}) (.of WG) m (b:=bp) (x:=x) (y:=y) (z:=z) (by omega) (by omega) (by omega) f8 f9 (by omega) (by omega);have Z:IsS (lY p bp x y z):=oq m _ _ _ _;have o:wJ a p bp t z y x=if sIn (lY p bp x y z) a then [⟨t,x,y,z,lY p bp x y z⟩]else []:=rfl
     have eJ:sIn (lY p bp x y z) a=true->(⟨t,x,y,z,lY p bp x y z⟩:Fi)∈jm a b:=λJ=>by
      refine K _ (List.mem_flatMap.2 ⟨z,mz,List.mem_flatMap.2 ⟨y,my,List.mem_flatMap.2 ⟨x,f7,?_⟩⟩⟩);rw[o,if_pos J];exact List.mem_singleton.2 rfl
     generalize hDx:Dy++(zrN (rm.lo.x-bp.lo.x) i).flatMap (wJ a p bp t z y)=Dx at*;generalize lY p bp x y z=ls at*;have io:=aV Z.len;have ik:=aL Z.len;have il:=bX ls;have fX:(us ls).length=8:=by rw[aB,Z.len]
     refine Y16 ?_;refine dw (E0:=[(0, .func (.yield l) #[] #[]),(1, sb qa),(2, sb qb),(4, sb h.next),(6, zc (t:Nat)),(7, sb q),(8, sb (q+1)),(9, sb (q+1+1)),(10, zc z),(11, zc y),(12, zc x),(13, sb G.next),(28, zc (t:Nat))]) (P:=λc=>Ext G c∧c.next=G.next+1/\c.get G.next=some (qt (us ls))) ?_ ?_
     ·refine Y6 ?_;refine FW.pu C3 ?_;refine aF (sG) ?_;refine aF (bB (by rfl) (by rfl) YG (by assumption) (by rfl) (by exact bX _)) ?_;refine bH ?_;refine y1 ?_;exact⟨rfl,rfl,rfl,dX (by omega) _ _,rfl,fU _ _⟩
     clear C3 q4 Q q7;rintro G' ⟨x',n',fY⟩;have am:=g.ext Y x' (by omega) a7 cY;have cd:=am.pd;have be:=x'.wf WG;have gA:=ga _ _ cd;have C4:=Gb hp F.f35 F.f121 (h:={G' with log:=[]}) (.of be) Z ha;refine Y4 ?_;refine FW.pu C4 ?_;clear C4;cases J:sIn ls a with
     |false=>
      rw[J,if_neg (by simp)]at o;refine Y21 ?_;refine⟨16-(i+1),by omega,i+1,x+1,by omega, .inr (by omega),rfl,rfl,rfl,?_,?_⟩
      ·rw[fx,o,md,hDx];exact am
      ·rw[fx,o,md,hDx];omega
     |true=>
      rw[J,if_pos rfl]at o;refine Y16 ?_;refine pQ (fn:= .yield l) (args:=fiV ⟨t,x,y,z,ls⟩) (by rfl) ?_;refine Y.call hp (eJ J) (by omega) be (by omega) (by omega) a7 cd ?_;intro h2 dT dq dp e9 eQ;refine Y13 ?_;refine⟨16-(i+1),by omega,i+1,x+1,by omega, .inr (by omega),rfl,rfl,rfl,?_,?_⟩
      ·rw[fx,o,←List.append_assoc,hDx];exact am.step dT dq dp e9 eQ cY
      ·rw[fx,o,←List.append_assoc,hDx];have:=Jb (L:=([]:List Nat)) cJ (f:=⟨t,x,y,z,ls⟩);omega
    ·have lx:zp x (rm.hi.x-bp.hi.x) false:=ew (by omega);have dC:=CI (lo:=rm.lo.x-bp.lo.x) (hi:=rm.hi.x-bp.hi.x) (n:=i) (by omega) (by omega);have e:(zrN (rm.lo.x-bp.lo.x) i).flatMap (wJ a p bp t z y)=vq a p rm bp t z y:=by rw[dC];rfl
     rw[e]at g cJ;refine Y23 ?_;refine⟨16-(j+1),by omega,j+1,y+1,by omega, .inr (by omega),rfl,rfl,rfl,?_,?_⟩
     ·rw[fy,←List.append_assoc,hDy];exact g
     ·rw[fy,←List.append_assoc,hDy];omega
   ·have ly:zp y (rm.hi.y-bp.hi.y) false:=ew (by omega);have dE:=CI (lo:=rm.lo.y-bp.lo.y) (hi:=rm.hi.y-bp.hi.y) (n:=j) (by omega) (by omega);refine Y23 ?_;refine⟨16-(n+1),by omega,n+1,z+1,by omega, .inr (by omega),rfl,rfl,rfl,?_⟩;rw[fz,←List.append_assoc];have e:(zrN (rm.lo.y-bp.lo.y) j).flatMap (vq a p rm bp t z)=yc a p rm bp t z:=by rw[dE];rfl
    rw[e]at g cX;rw[hDz];exact⟨g,by omega⟩
  ·have lz:zp z (rm.hi.z-bp.hi.z) false:=ew (by omega);have eK:=CI (lo:=rm.lo.z-bp.lo.z) (hi:=rm.hi.z-bp.hi.z) (n:=n) (by omega) (by omega);have q4:=g.g4;have Q:=g.g9;refine Y22 ?_;rw[eK]at g ar;have C:FxL P W lo h q0 q rm bp p ((List.range (t+1)).flatMap (qn a b)) G:=by rw[hT];exact g
   have eg:((List.range (t+1)).flatMap (qn a b)).length<=(t+1)*4096:=by
    rw[hT];exact ed ar (by omega)
   exact⟨24-(t+1),by omega,t+1,by omega,rfl,rfl,rfl,C.k,C.pd,by have:=C.nx;omega,C.g4,C.dm,C.w4,eg⟩
 ·obtain rfl:t=24:=by omega
  rw[←hf]at U V;refine Y9 ?_;exact LM (hk.log (by rw[hr.log];exact fF.nil _)) rfl ⟨rfl,U,V⟩
def Am(a b:Nat):Int:=if a<b then -1 else if b<a then 1 else 0
def cmpL:List Nat->List Nat->Int
 |a::l,b::m=>if a<b then -1 else if b<a then 1 else cmpL l m
 |_,_=>0
theorem nW:∀l:List Nat,cmpL l l=0
 |[]=>rfl
 |a::l=>by
  unfold cmpL;rw[if_neg (ui a),if_neg (ui a)];exact nW l
theorem BK:∀{l m:List Nat} {j x y:Nat},l.take j=m.take j->l[j]? =some x->m[j]? =some y->x≠y->cmpL l m=Am x y
 |[],_,j,x,y,_,h,_,_=>by simp at h
 |_::_,[],j,x,y,_,_,h,_=>by simp at h
 |a::l,b::m,0,x,y,_,h1,h2,h=>by
  simp at h1 h2;subst h1;subst h2;unfold cmpL Am;by_cases q:a<b
  ·rw[if_pos q,if_pos q]
  ·rw[if_neg q,if_neg q,if_pos (by omega),if_pos (by omega)]
 |a::l,b::m,j+1,x,y,ht,h1,h2,h=>by
  simp only[Nm,List.cons.injEq]at ht;obtain⟨rfl,ht⟩:=ht;unfold cmpL;rw[if_neg (ui a),if_neg (ui a)];exact BK ht (by simpa using h1) (by simpa using h2) h
structure Ar (T:Nat->Option an):Prop where
 p:aM T
 f191:T 97=some f191
 f256:T 129=some f256
 f315:T 153=some f315
theorem Nv(F:Ar T)(hr:Rdy h)(x:Nat):Pu T 153 [.int .u64 (x:Nat)] h (.bool false):=by
 refine .of F.p F.f315 hr rfl ?_;have a:af .neq (.int .u64 (x:Nat)) (.int .u64 (x:Nat))=some (.bool false):=by rw[Ie];simp
 refine Y10 ?_;exact ah hr.log rfl rfl
theorem TV(F:Ar T)(hr:Rdy h)(a b:Nat):Pu T 129 [.int .u64 (a:Nat), .int .u64 (b:Nat)] h (.int .i64 (Am a b)):=by
 refine .of F.p F.f256 hr rfl ?_;have c:=Nv F (h:={h with log:=[]}) (.of hr.wf) a;have d:=Nv F (h:={h with log:=[]}) (.of hr.wf) b;have e:=hr.log;unfold Am;by_cases h1:a<b
 ·rw[if_pos h1];have f:af .lss (.int .u64 (a:Nat)) (.int .u64 (b:Nat))=some (.bool true):=cH (by omega);refine Y6 ?_;refine FW.pu c ?_;refine Y5 ?_;refine FW.pu d ?_;refine Y28 ?_;exact ah e rfl rfl
 ·rw[if_neg h1];have f:af .lss (.int .u64 (a:Nat)) (.int .u64 (b:Nat))=some (.bool false):=cS (by omega);by_cases h2:b<a
  ·rw[if_pos h2];have g:af .gtr (.int .u64 (a:Nat)) (.int .u64 (b:Nat))=some (.bool true):=dY (by omega);refine Y6 ?_;refine FW.pu c ?_;refine Y5 ?_;refine FW.pu d ?_;refine Y37 ?_;exact ah e rfl rfl
  ·rw[if_neg h2];have g:af .gtr (.int .u64 (a:Nat)) (.int .u64 (b:Nat))=some (.bool false):=fu (by omega);refine Y6 ?_;refine FW.pu c ?_;refine Y5 ?_;refine FW.pu d ?_;refine Y38 ?_;exact ah e rfl rfl
theorem xQ(F:Ar T)(hr:Rdy h){p q c c2:Nat}(r:IsS a)(hb:IsS b)(z:h.get p=some (qt (us a)))(A:h.get q=some (qt (us b))):
 Pu T 97 [sh p 8 c, sh q 8 c2] h (.int .i64 (cmpL a b)):=by
 refine .of F.p F.f191 hr rfl ?_;have o:=hr.log;refine Y10 ?_
 refine bg (λm e l n=>∃j:Nat,j<=8/\8-j=m/\e=[(0, sh p 8 c),(1, sh q 8 c2),(9, sh p 8 c),(10, .int .i64 8),(11, .int .i64 (j:Nat))]/\l=[]/\h=n∧a.take j=b.take j)
  ⟨0,gK _,rfl,rfl,rfl,rfl,rfl⟩ ?_
 rintro m e l n ⟨j,B,rfl,rfl,rfl,rfl,d⟩;by_cases hlt:j<8
 ·obtain⟨x,i⟩:∃x,a[j]? =some x:=⟨a[j]'(by rw[r.len];exact hlt),a6 _⟩;obtain⟨y,k⟩:∃x,b[j]? =some x:=⟨b[j]'(by rw[hb.len];exact hlt),a6 _⟩;have v:=jc i;have w:=jc k;have C:=TV F (h:={h with log:=[]}) (.of hr.wf) x y;have t:zd j 8 true:=cH (by omega);have D:zt j 8 false:=pz (by omega);by_cases hxy:x=y
  ·have f:Am x y=0:=by subst hxy;unfold Am;rw[if_neg (ui x),if_neg (ui x)]
   rw[f]at C;have u:zB 0 0 false:=rfl;refine Y37 ?_;refine FW.pu C ?_;refine Y14 ?_;refine⟨8-(j+1),by omega,j+1,by omega,rfl,rfl,rfl,rfl,?_⟩;rw[Qh,Qh,d,i,k,hxy]
  ·have f:Am x y≠0:=by
    unfold Am;split
    ·decide
    ·rw[if_pos (by omega)];decide
   have s:=BK d i k hxy;have u:zB (Am x y) 0 true:=jr f;rw[s];refine Y37 ?_;refine FW.pu C ?_;refine Y17 ?_;exact ah o rfl rfl
 ·obtain rfl:j=8:=by omega
  have g:a=b:=by
   rw[dn (by rw[r.len];omega),dn (by rw[hb.len];omega)]at d;exact d
  rw[g,nW];have t:zd ((8:Nat):Int) 8 false:=rfl;refine Y25 ?_;exact ah o rfl rfl
theorem QS(F:Ar T)(m:T 126=some f168)(hr:Rdy h)(l:IsS a)(hb:IsS b):Pu T 126 [sv a,sv b] h (.int .i64 (cmpL a b)):=by
 refine .of F.p m hr rfl ?_;have e:Ext h ((h.push (qt (cellsOf (sv a)))).push (qt (cellsOf (sv b)))):=((Ext.refl h).push _).push _;have f:((h.push (qt (cellsOf (sv a)))).push (qt (cellsOf (sv b)))).get h.next=some (qt (us a)):=YG
 have g:((h.push (qt (cellsOf (sv a)))).push (qt (cellsOf (sv b)))).get (h.next+1)=some (qt (us b)):=YG;refine Y5 ?_;generalize((h.push (qt (cellsOf (sv a)))).push (qt (cellsOf (sv b))))=H at*;have W:=e.wf hr.wf;have k:=e.log.trans hr.log;have C:=λc d=>xQ F (h:={H with log:=[]}) (.of W) (c:=c) (c2:=d) l hb f g;refine Y2 ?_;refine qZ9 (b:=kJ (i:=0) (j:=8) (by rfl) (by rfl) (by rfl) (by omega) (by omega) (by omega) (by omega)) (H:=?_);refine qZ9 (b:=kJ (i:=0) (j:=8) (by rfl) (by rfl) (by rfl) (by omega) (by omega) (by omega) (by omega)) (H:=?_);skip;refine qC ?_;refine FW.puD (C _ _) (by(repeat apply aC rfl);exact aQ) ?_;refine Y5 ?_;exact ah k rfl rfl
theorem QT(F:Ar T)(m:T 96=some f190)(hr:Rdy h)(l:IsS a)(hb:IsS b):Pu T 96 [sv a,sv b] h (.int .i64 (cmpL a b)):=by
 refine .of F.p m hr rfl ?_;have e:Ext h ((h.push (qt (cellsOf (sv a)))).push (qt (cellsOf (sv b)))):=((Ext.refl h).push _).push _;have f:((h.push (qt (cellsOf (sv a)))).push (qt (cellsOf (sv b)))).get h.next=some (qt (us a)):=YG
 have g:((h.push (qt (cellsOf (sv a)))).push (qt (cellsOf (sv b)))).get (h.next+1)=some (qt (us b)):=YG;refine Y5 ?_;generalize((h.push (qt (cellsOf (sv a)))).push (qt (cellsOf (sv b))))=H at*;have W:=e.wf hr.wf;have k:=e.log.trans hr.log;have C:=λc d=>xQ F (h:={H with log:=[]}) (.of W) (c:=c) (c2:=d) l hb f g;refine Y2 ?_;refine qZ9 (b:=kJ (i:=0) (j:=8) (by rfl) (by rfl) (by rfl) (by omega) (by omega) (by omega) (by omega)) (H:=?_);refine qZ9 (b:=kJ (i:=0) (j:=8) (by rfl) (by rfl) (by rfl) (by omega) (by omega) (by omega) (by omega)) (H:=?_);skip;refine qC ?_;refine FW.puD (C _ _) (by(repeat apply aC rfl);exact aQ) ?_;refine Y5 ?_;exact ah k rfl rfl
end Go.A.Pk
end
section
namespace Go.A.Pk
variable {T:Nat->Option an}
def fnF(p q:Nat):Value:= .func (.func 120) #[] #[.pointer (some ⟨p,0,none⟩), .pointer (some ⟨q,0,none⟩)]
structure Tb (T:Nat->Option an):Prop where
 ft:Tc T
 f34:T 56=some f34
 f120:T 92=some f120
theorem Qx(F:Tb T){h:Heap}(hr:Rdy h){a b:List Nat}(e:IsS a)(hb:IsS b):
 Al T 92 [sv a,sv b] h λv h'=>∃p q,v=fnF p q/\h'.get p=some (qt (us a))/\h'.get q=some (qt (us b))/\p<h'.next/\q<h'.next/\h.next<=p/\h.next<=q:=by
 refine .of F.ft.li.p F.f120 hr ?_ ?_
 ·rintro v d c ⟨p,q,rfl,_⟩;cases c
 refine Y10 ?_;exact dN hr.log rfl ⟨h.next,h.next+1,rfl,YG,YG,by show h.next<h.next+2;omega,by show h.next+1<h.next+2;omega,bl _,Hc _⟩
section
open I
end
end Go.A.Pk
end
