/- Walks of functions, plain laws, the table. -/
import Derived.Test.YtalmahakphchfaaGreatDoorNU0
import Derived.Test.YtalmahakphchfaaGreatDoorND
import Derived.Test.YtalmahakphchfaaGreatDoorNF
set_option linter.all false
set_option maxHeartbeats 16000000
set_option maxRecDepth 100000
section
namespace Go.A.Pk
variable {T:Nat->Option af}
def ints(l:List Int):List Value:=l.map λx=> .int .i64 x
theorem dD(l:List Int):(ints l).length=l.length:=by simp[ints]
theorem uw(a b:List Int):ints (a++b)=ints a++ints b:=by simp[ints]
theorem v8:∀l:List Int,cK (ints l)=true
 |[]=>rfl
 |x::l=>v8 l
structure Mx (T:Nat->Option af):Prop where
 p:aV T
 f171:T 183=some f171
 f225:T 181=some f225
theorem Nv(F:Mx T){h:Heap}(hr:Rdy h){s:List Nat}(hs:IsS s)(c:Ce):Pu T 183 [sv s,ceV c] h (.bool (ff s c)):=by
 refine .of F.p F.f171 hr rfl ?_;have W:=(hr.wf.push (.cells (cellsOf (sv s)) true 1)).push (.cells (cellsOf (ceV c)) true 1);have C:=vZ F.p F.f225 (.of W) c;by_cases hc:inG c=true
 ·obtain⟨z,i,hz,hi,rfl⟩:=iB hc;rw[hc]at C;rw[ij hz hi,←KA];have e1:=pX (jI (s:=s) (i:=z) (by rw[hs.len];exact hz));have k1:=qE (hs.jJ z) (qS hi);have k2:ah .neq (.int .u64 ((Nat.land (s.getD z 0) (2 ^ i):Nat):Int)) (.int .u64 0)=some (.bool (decide (Nat.land (s.getD z 0) (2 ^ i)≠0))):=by
   rw[Ht];by_cases q:Nat.land (s.getD z 0) (2 ^ i)=0
   ·rw[q];rfl
   ·rw[decide_eq_true q];have:((Nat.land (s.getD z 0) (2 ^ i):Nat):Int)≠0:=by omega
    simp only[bne,beq_eq_false_iff_ne.2 this];rfl
  have k4:ah .mul (.int .i64 8) (.int .i64 (eC z i).y)=some (.int .i64 (8*((i / 8:Nat):Int))):=Dn (b:=((i / 8:Nat):Int)) (by omega) (by omega);have k5:ah .add (.int .i64 (8*((i / 8:Nat):Int))) (.int .i64 (eC z i).x)=some (.int .i64 ((i:Nat):Int)):=iD (b:=((i % 8:Nat):Int)) (by rw[bJ]<;>omega);have k6:=BP (k:= .u64) hi;have k7:fG .u64 ((i:Nat):Int)=((i:Nat):Int):=mj (by omega);refine Y9 ?_;refine FW.puD C (by apply aK rfl;exact bV) ?_;clear C;refine Y4 ?_;refine cD rfl rfl rfl (by exact rfl) (by exact rfl) (by exact rfl) (fq (by exact rfl) YG (by assumption)) ?_;refine Y6 ?_;refine cD rfl rfl rfl (by exact rfl) (by exact rfl) (by exact rfl) (xy (by exact rfl) (by assumption)) ?_;refine Y9 ?_;exact ak hr.log rfl rfl
 ·have hc:inG c=false:=by simpa using hc
  rw[hc]at C;rw[show ff s c=false by unfold ff;rw[hc];rfl];refine Y9 ?_;refine FW.puD C (by apply aK rfl;exact bV) ?_;clear C;refine Y21 ?_;exact ak hr.log rfl rfl
def ceN(n:Nat):Ce:=⟨(n % 8:Nat),(n / 8 % 8:Nat),(n / 64:Nat)⟩
def ceS(l:List Ce):List Value:=l.flatMap ceL
theorem Kg(a b:List Ce):ceS (a++b)=ceS a++ceS b:=by simp[ceS]
def aW(s:List Nat)(n:Nat):List Ce:=((List.range n).map ceN).filter (ff s)
theorem qu(s:List Nat)(n:Nat):aW s (n+1)=aW s n++(if ff s (ceN n)then [ceN n]else []):=by
 unfold aW;rw[List.range_succ,List.map_append,List.filter_append];congr 1;simp only[List.map_cons,List.map_nil,List.filter_cons,List.filter_nil]
theorem gW(s:List Nat)(n:Nat):(aW s n).length<=n:=by
 unfold aW;exact Nat.le_trans (List.length_filter_le ..) (by simp)
structure FC (T:Nat->Option af):Prop where
 hr:Mx T
 f170:T 176=some f170
theorem qo(F:FC T){h:Heap}(hr:Rdy h){s:List Nat}(hs:IsS s):Al T 176 [sv s] h λv h'=>Own h.next h' 3 v (aW s 512).length (ceS (aW s 512)):=by
 refine .of F.hr.p F.f170 hr ?_ ?_
 ·intro v h1 hv q;generalize(aW s 512).length=m at q⊢;generalize ceS (aW s 512)=cs at q⊢;cases q with
  |nil=>exact .nil
  |full=>cases hv
 have k8:=aR hs.len;have k9:=bR hs.len;have g0:(h.push (.cells (cellsOf (sv s)) true 1)).get h.next=some (.cells (us s) true 1):=z3 h _
 have x0:Ext h (h.push (.cells (cellsOf (sv s)) true 1)):=(Ext.refl h).push _;have n0:(h.push (.cells (cellsOf (sv s)) true 1)).next=h.next+1:=rfl
 refine Y4 ?_;generalize(h.push (.cells (cellsOf (sv s)) true 1))=H at*;refine Y8 ?_;let J:=λ(n:Nat) (v:Value) (h':Heap)=>Ext h h'∧h.next<h'.next/\h'.get h.next=some (.cells (us s) true 1)/\Own (h.next+1) h' 3 v (aW s n).length (ceS (aW s n))
 refine bW (λm e ds h'=>∃(z:Nat) (v:Value),z<=8/\m=8-z/\e=[(1, .pointer (some ⟨h.next,0,none⟩)),(3,v),(4, .int .i64 (z:Nat))]/\ds=[]/\J (z*64) v h')
  ⟨0,_,by omega,rfl,rfl,rfl,x0,by omega,g0, .nil⟩ ?_
 rintro m e ds H1 ⟨z,v,hz8,rfl,rfl,rfl,j1⟩;by_cases hz:z<8
 ·refine Y14 ?_
  refine bW (λm e ds h'=>∃(y:Nat) (v:Value),y<=8/\m=8-y/\e=[(1, .pointer (some ⟨h.next,0,none⟩)),(3,v),(4, .int .i64 (z:Nat)),(5, .int .i64 (y:Nat))]/\ds=[]/\J (z*64+y*8) v h')
   ⟨0,v,by omega,rfl,rfl,rfl,j1⟩ ?_
  rintro m e ds H2 ⟨y,v,hy8,rfl,rfl,rfl,j2⟩;clear j1;by_cases hy:y<8
  ·refine Y14 ?_
   refine bW (λm e ds h'=>∃(x:Nat) (v:Value),x<=8/\m=8-x/\e=[(1, .pointer (some ⟨h.next,0,none⟩)),(3,v),(4, .int .i64 (z:Nat)),(5, .int .i64 (y:Nat)),(6, .int .i64 (x:Nat))]/\ds=[]/\J (z*64+y*8+x) v h')
    ⟨0,v,by omega,rfl,rfl,rfl,j2⟩ ?_
   rintro m e ds H3 ⟨x,v,hx8,rfl,rfl,rfl,j3⟩;clear j2;by_cases hx:x<8
   ·obtain⟨x3,n3,g3,ow⟩:=j3;refine Y10 ?_;refine aX (E0:=[(1, .pointer (some ⟨h.next,0,none⟩)),(3,v),(4, .int .i64 (z:Nat)),(5, .int .i64 (y:Nat)),(6, .int .i64 (x:Nat)),(7, .pointer (some ⟨H3.next,0,none⟩))]) (P:=λh'=>Ext H3 h'∧h'.next=H3.next+1/\h'.get H3.next=some (.cells (ceL ⟨(x:Nat),(y:Nat),(z:Nat)⟩) true 1)) ?_ ?_
    ·refine Y7 ?_;refine aO ?_;refine y1 ?_;exact⟨rfl,rfl,rfl,dI (by omega) _ _,rfl,ef _ _⟩
    rintro H4 ⟨x4,n4,g4⟩;have hce:ceN (z*64+y*8+x)=⟨(x:Nat),(y:Nat),(z:Nat)⟩:=by
     unfold ceN;rw[show(z*64+y*8+x) % 8=x by omega,show(z*64+y*8+x) / 8 % 8=y by omega,show(z*64+y*8+x) / 64=z by omega]
    have hst:=qu s (z*64+y*8+x);rw[hce]at hst;have hle:=gW s (z*64+y*8+x);have ey0':=x3.trans x4;have W4:=ey0'.wf hr.wf;have g5:=(x4.old _ n3).trans g3;have ow5:=ow.ext x4;generalize hce2:(⟨(x:Nat),(y:Nat),(z:Nat)⟩:Ce)=ce at*;have C:=Nv F.hr (.of W4) hs ce;have ck:bB 3 (bA 0 (ceL ce))=ceL ce:=rfl;have ckl:Nat.beq (bK (ceL ce)) 3=true:=rfl;clear g3 ow;refine Y4 ?_;refine FW.pu C ?_;clear C;cases hb:ff s ce with
    |false=>
     rw[hb,if_neg (by simp),List.append_nil]at hst;refine Y10 ?_;refine⟨8-(x+1),by omega,x+1,v,by omega,rfl,rfl,rfl,ey0',by omega,g5,?_⟩;show Own _ _ _ _ (aW s (z*64+y*8+x+1)).length (ceS (aW s (z*64+y*8+x+1)));rw[hst];exact ow5
    |true=>
     rw[hb,if_pos rfl]at hst;refine Y6 ?_;refine DQ (lo:=h.next+1) (sz:=3) (v:=v) (c1:=ceL ce) (ow5.ext ((Ext.refl H4).push _)) (by omega) (by omega) (by omega) (by show h.next+1<=H4.next+1;omega) (by omega) (by exact rfl) (by exact rfl) (kF (cs:=ceL ce) YG rfl rfl) rfl rfl ?_;intro v' h5 o5 x5;have ey5:Lx (h.next+1) H4 h5:=((Lx.refl (h.next+1) H4).push (by omega) _).trans x5;have n5:=ey5.next
     refine yM ?_;refine aO ?_;refine Y8 ?_;refine⟨8-(x+1),by omega,x+1,v',by omega,rfl,rfl,rfl,⟨Nat.le_trans ey0'.next n5,ey5.log.trans ey0'.log,λb hb=>(ey5.old b (by omega)).trans (ey0'.old b hb),λw=>ey5.wf (ey0'.wf w)⟩,by omega,(ey5.old _ (by omega)).trans g5,?_⟩;show Own _ _ _ _ (aW s (z*64+y*8+x+1)).length (ceS (aW s (z*64+y*8+x+1)));rw[hst,List.length_append,Kg];have e:ceS [ce]=ceL ce:=by simp[ceS]
     rw[e];exact o5
   ·obtain rfl:x=8:=by omega
    refine Y17 ?_;refine⟨8-(y+1),by omega,y+1,v,by omega,rfl,rfl,rfl,?_⟩;rw[show z*64+(y+1)*8=z*64+y*8+8 by omega];exact j3
  ·obtain rfl:y=8:=by omega
   refine Y17 ?_;refine⟨8-(z+1),by omega,z+1,v,by omega,rfl,rfl,rfl,?_⟩;rw[show(z+1)*64=z*64+8*8 by omega];exact j2
 ·obtain rfl:z=8:=by omega
  obtain⟨x1,n1,g1,ow⟩:=j1;refine Y16 ?_;exact fA (x1.log.trans hr.log) rfl (ow.low (Nat.le_succ _))
end Go.A.Pk
end
section
namespace Go.A.Pk
def pS(s:List Nat)(z:Nat):List Ce:=(bitsOf (s.getD z 0)).map (eC z)
theorem xM{z i:Nat}(hi:i<64):ceN (z*64+i)=eC z i:=by
 unfold ceN eC;rw[show(z*64+i) % 8=i % 8 by omega,show(z*64+i) / 8 % 8=i / 8 by omega,show(z*64+i) / 64=z by omega]
theorem lN(s:List Nat){z:Nat}(hz:z<8):aW s ((z+1)*64)=aW s (z*64)++pS s z:=by
 unfold aW pS bitsOf;rw[show(z+1)*64=z*64+64 by omega,List.range_add,List.map_append,List.filter_append];congr 1;rw[List.map_map,List.filter_map];have e1:(List.range 64).filter (ff s ∘ (ceN ∘ λx=>z*64+x))=(List.range 64).filter (Nat.testBit (s.getD z 0)):=by
  apply List.filter_congr;intro i hi;have hi:=List.mem_range.1 hi;show ff s (ceN (z*64+i))=_;rw[xM hi,ij hz hi]
 rw[e1];apply List.map_congr_left;intro i hi;have hi:=List.mem_range.1 (List.mem_filter.1 hi).1;exact xM hi
theorem GK{f:Nat->Nat->Nat}{a b:List Nat}(ha:IsS a)(hb:IsS b){z:Nat}(hz:z<8):(List.zipWith f a b).getD z 0=f (a.getD z 0) (b.getD z 0):=by
 have e1:=jI (s:=a) (i:=z) (by rw[ha.len];exact hz);have e2:=jI (s:=b) (i:=z) (by rw[hb.len];exact hz);rw[List.getD_eq_getElem?_getD,List.getElem?_zipWith,e1,e2];rfl
theorem jg{s:List Nat}{c:Ce}(hc:¬inG c=true):ff s c=false:=by
 unfold ff;rw[Bool.not_eq_true]at hc;rw[hc];rfl
theorem qY(c:Ce):ff s0 c=false:=by
 by_cases hc:inG c=true
 ·obtain⟨z,i,hz,hi,rfl⟩:=iB hc;rw[ij hz hi];have:∀z:Fin 8,s0.getD z.val 0=0:=by decide
  rw[this ⟨z,hz⟩];exact Nat.zero_testBit i
 ·exact jg hc
theorem Em{s:List Nat}{n:Nat}{c:Ce}(h:c∈aW s n):ff s c=true:=(List.mem_filter.1 h).2
structure Dou where
 c:Ce
 ids:List Int
 is:Bool
 e:Int
def c0:Ce:=⟨0,0,0⟩
end Go.A.Pk
end
section
namespace Go.A.Pk
variable {T:Nat->Option af}
section
open I
end
theorem WE.Kx{base:Nat}{rnd:Option Nat}{c:aQ}{Q:XQ}{e:Env}{ds:Dfs}{h:Heap}(hK:∀hA,hA=h->WE T base rnd c Q e ds hA):WE T base rnd c Q e ds h:=hK h rfl
theorem vT(s:List Nat){n:Nat}:∀m,∃r,aW s (n+m)=aW s n++r
 |0=>⟨[],by simp⟩
 |m+1=>by
  obtain⟨r,e⟩:=vT s (n:=n) m;exact⟨r++(if ff s (ceN (n+m))then [ceN (n+m)]else []),by rw[←Nat.add_assoc,qu,e,List.append_assoc]⟩
structure CG (T:Nat->Option af):Prop where
 p:aV T
 f123:T 40=some f123
 f213:T 74=some f213
 f214:T 75=some f214
 f264:T 119=some f264
 f265:T 120=some f265
 f266:T 121=some f266
structure PCe (l q:Nat) (H0:Heap) (L:bO) (done:List Ce) (H:Heap):Prop where
 old:∀z,z<q->H.get z=H0.get z
 loop:H.get l=some L
 nx:l<H.next
 val:∃v,H.get q=some (.cells [v] true 1)/\Own (l+1) H 3 v done.length (ceS done)
def fnC(q0:Nat):Value:= .func (.func 120) #[] #[.pointer (some ⟨q0,0,none⟩)]
theorem zV(F:CG T){h:Heap}(hr:Rdy h){s:List Nat}(hs:IsS s):
 Al T 75 [sv s] h λv h'=>∃q,v=fnC q/\h'.get q=some (.cells (us s) true 1)/\h.next<=q/\q<h'.next:=by
 refine .of F.p F.f214 hr ?_ ?_
 ·rintro v h1 hv ⟨q,rfl,_⟩;cases hv
 refine Y9 ?_;exact fA hr.log rfl ⟨h.next,rfl,z3 _ _,Nat.le_refl _,Nat.lt_succ_self _⟩
theorem vR(F:CG T){h:Heap}(hr:Rdy h){q0 l N lo:Nat}{s:List Nat}(hs:IsS s){P:List Ce->Heap->Prop}{S:Heap->Prop}(hN:N<=h.next)(hlo:lo<=h.next)(hlN:l<N)(Y:FJ T lo N l ceV (aW s 512) P S)
 (g0:h.get q0=some (.cells (us s) true 1))(htab:∀d H,P d H->Tab H)(h0:P [] h):
 GrX T 120 [.func (.yield l) #[] #[], .pointer (some ⟨q0,0,none⟩)] h lo (P (aW s 512)) S:=by
 have hlb:l<h.next:=by omega
 have hp:=F.p;have k8:=aR hs.len;have k9:=bR hs.len;refine GrX.of (l:=l) hp F.f265 hlo hlb (λh1 h2 hn ha q=>Y.fF _ _ _ q (Nat.le_trans hN hn) λx hx=>ha x (by omega)) Y.wO ?_;refine Y5 ?_
 refine bW (λk e ds h'=>∃z:Nat,z<=8/\8-z=k/\e=[(0, .func (.yield l) #[] #[]),(6,sv s),(7, .int .i64 (z:Nat))]/\ds=[]/\Lk lo h h'∧P (aW s (z*64)) h')
  ⟨0,by omega,rfl,rfl,rfl, .refl _ _,h0⟩ ?_
 rintro k e ds h' ⟨z,hz8,rfl,rfl,rfl,hk,hP⟩;by_cases hz:z<8
 ·have e1:aT (us s).toArray.toList (z*1)=some (.int .u64 ((s.getD z 0:Nat):Int)):=by
   rw[List.toList_toArray,Nat.mul_one,cA];unfold us;rw[List.getElem?_map,jI (by rw[hs.len];exact hz)];rfl
  have hx0:=hs.jJ z;obtain⟨rest,hrest⟩:∃r,aW s 512=aW s (z*64)++pS s z++r:=by
   obtain⟨r,e⟩:=vT s (n:=(z+1)*64) (512-(z+1)*64);rw[show(z+1)*64+(512-(z+1)*64)=512 by omega,lN s hz]at e;exact⟨r,e⟩
  have hplane:=lN s hz;have hpl:pS s z=(bitsOf (s.getD z 0)).map (eC z):=rfl;generalize hx:s.getD z 0=x0 at*;generalize pS s z=pl at*;refine Y11 ?_;refine aA (FM (by exact rfl) (by exact rfl) (by omega) (by assumption)) ?_;refine Y4 ?_
  refine bW (λk e ds h''=>∃(x:Nat) (d:List Ce),x<U64/\d++(bitsOf x).map (eC z)=pl/\(bitsOf x).length=k/\e=[(0, .func (.yield l) #[] #[]),(3, .int .i64 (z:Nat)),(4, .int .u64 (x:Nat)),(6,sv s),(7, .int .i64 (z:Nat))]/\ds=[]/\Lk lo h h''∧P (aW s (z*64)++d) h'')
   ⟨x0,[],hx0,by rw[hpl];rfl,rfl,rfl,rfl,hk,by rw[List.append_nil];exact hP⟩ ?_
  clear hP hk h';rintro k e ds h' ⟨x,d,hxl,hd,rfl,rfl,rfl,hk,hP⟩;by_cases hx:x=0
  ·subst hx;rw[zR]at hd;have hd:d=pl:=by simpa using hd
   subst hd;rw[←hplane]at hP;refine Y16 ?_;exact⟨8-(z+1),by omega,z+1,by omega,rfl,rfl,rfl,hk,hP⟩
  ·obtain⟨b,m,hform⟩:=AJ x hx;have hb64:=(yb hform hxl).1;have hstep:=zQ hform hxl;have m1:ah .neq (.int .u64 (x:Nat)) (.int .u64 0)=some (.bool true):=yg (by omega);have C:=Rl F.p F.f266 (h:={h' with log:=[]}) (.of (hk.wf hr.wf)) (show Tab h' from htab _ _ hP) hxl hform;have m2:ah .rem (.int .i64 (b:Nat)) (.int .i64 8)=some (.int .i64 ((b % 8:Nat):Int)):=NM;have m3:ah .quo (.int .i64 (b:Nat)) (.int .i64 8)=some (.int .i64 ((b / 8:Nat):Int)):=NL (by omega);have m4:ah .sub (.int .u64 (x:Nat)) (.int .u64 1)=some (.int .u64 ((x-1:Nat):Int)):=mW (by rw[show(x:Int)-1=((x-1:Nat):Int)by omega];exact mj (by unfold U64 at hxl;omega));have m5:=qE (a:=x) (b:=x-1) hxl (Nat.lt_of_le_of_lt (Nat.sub_le x 1) hxl);rw[hstep]at hd⊢;have hlt:Nat.land x (x-1)<U64:=ya hxl;generalize Nat.land x (x-1)=x' at*;rw[List.map_cons]at hd;have hsp:aW s 512=(aW s (z*64)++d)++eC z b::((bitsOf x').map (eC z)++rest):=by
    rw[hrest,←hd];simp
   refine Y13 ?_;refine FW.pu C ?_;clear C;refine Y10 ?_;refine zJ (fn:= .yield l) (args:=[ceV (eC z b)]) (by rfl) ?_;refine Y.call hp (by rw[hsp];simp) (hk.wf hr.wf) (Nat.le_trans hlo hk.next) (Nat.le_trans hN hk.next) hlb hP ?_ ?_
   rotate_left
   ·intro h9 hk9 hm9 hS9;refine Y12 ?_;exact Ae ((hk.trans hk9).log (by rw[hr.log];exact fQ.nil _)) rfl hm9 hS9
   intro h2 hk2 _ hP2;refine Y13 ?_;exact⟨(bitsOf x').length,by simp,x',d++[eC z b],hlt,by rw[←hd];simp,rfl,rfl,rfl,hk.trans hk2,by rw[←List.append_assoc];exact hP2⟩
 ·obtain rfl:z=8:=by omega
  refine Y9 ?_;exact Ad (hk.log (by rw[hr.log];exact fQ.nil _)) rfl hP
end Go.A.Pk
end
section
namespace Go.A.Pk
variable {T:Nat->Option af}
structure Bx where
 lo:Ce
 hi:Ce
 deriving DecidableEq
def bxL(b:Bx):List Value:=ceL b.lo++ceL b.hi
def bxV(b:Bx):Value:= .agg (bxL b).toArray
def mY(b:Bx)(c:Ce):Bx:=⟨⟨mi b.lo.x c.x,mi b.lo.y c.y,mi b.lo.z c.z⟩,⟨mx b.hi.x c.x,mx b.hi.y c.y,mx b.hi.z c.z⟩⟩
def bx0:Bx:=⟨⟨7,7,7⟩,⟨0,0,0⟩⟩
def bxS(l:List Ce):Bx:=l.foldl mY bx0
theorem Gk(l:List Ce)(c:Ce):bxS (l++[c])=mY (bxS l) c:=by unfold bxS;rw[List.foldl_append];rfl
section
open I
def tZ:aQ:=I.R [g 5 (.new [O,O,O]),S 3 5 16] [4,5]
def uf:aQ:=(.block 1 (Q (I.R [A 17 0 4,A 18 3 4,M 6 17,M 7 18] [5,6,7]) (Q (.draw [M 19 6,M 20 6,M 21 6,M 22 6,g 23 (.bC (t 22)),A 24 0 23,L 25 24,A 26 0 5,L 27 26,g 28 (.dK false [(t 25),(t 27)]),M 29 6,g 30 (.bC (t 29)),A 31 1 30,L 32 31,A 33 1 5,L 34 33,g 35 (.dK false [(t 32),(t 34)]),M 36 6,g 37 (.bC (t 36)),A 38 2 37,L 39 38,A 40 2 5,L 41 40,g 42 (.dK false [(t 39),(t 41)]),g 43 (.bC (t 19)),A 44 0 43,S 1 44 28,g 45 (.bC (t 20)),A 46 1 45,S 1 46 35,g 47 (.bC (t 21)),A 48 2 47,S 1 48 42] [0,1,2,3,4,5,6,7,8,9,10,11,12,13,14,15,16,17,18,19,20,21,22,23,24,25,26,27,28,29,30,31,32] [0,0,0,0,8,24,56,0,128,504,0,1024,3072,7168,0,16384,64512,0,131072,393216,917504,0,2097152,8257536,1982457,18759673,52314105,119537659,253755387,522190843,1073741823,2147483647,4294967295] [5,7])
 (.draw [M 49 7,M 50 7,M 51 7,M 52 7,g 53 (.bC (t 52)),A 54 0 53,L 55 54,A 56 0 5,L 57 56,g 58 (.dK true [(t 55),(t 57)]),M 59 7,g 60 (.bC (t 59)),A 61 1 60,L 62 61,A 63 1 5,L 64 63,g 65 (.dK true [(t 62),(t 64)]),M 66 7,g 67 (.bC (t 66)),A 68 2 67,L 69 68,A 70 2 5,L 71 70,g 72 (.dK true [(t 69),(t 71)]),g 73 (.bC (t 49)),A 74 0 73,S 1 74 58,g 75 (.bC (t 50)),A 76 1 75,S 1 76 65,g 77 (.bC (t 51)),A 78 2 77,S 1 78 72] [0,1,2,3,4,5,6,7,8,9,10,11,12,13,14,15,16,17,18,19,20,21,22,23,24,25,26,27,28,29,30,31,32] [0,0,0,0,8,24,56,0,128,504,0,1024,3072,7168,0,16384,64512,0,131072,393216,917504,0,2097152,8257536,1982457,18759673,52314105,119537659,253755387,522190843,1073741823,2147483647,4294967295] []))))
end
theorem Gn(hp:aV T){H:Heap}(hr:Rdy H){q l lo N:Nat}{fv fv2:Value}{b:Bx}{c:Ce}(hlo:lo<=q)(hql:q<l)(hlN:l<N)
 (gl:H.get l=some (.loop [(2,fv2),(4, .pointer (some ⟨q,0,none⟩)),(15,fv)] [16] tZ uf 0 .normal))
 (go:H.get q=some (.cells (bxL b) true 1)){S:Heap->Prop}:
 FW T (.yield l) [ceV c] H λr H'=>(∀z∈H'.log,lo<=z/\z<N)/\(r= .ret (.bool true)/\(H'.get q=some (.cells (bxL (mY b c)) true 1)/\(∀z,z<H.next->z≠q->H'.get z=H.get z)/\H.next<=H'.next)∨r= .ret (.bool false)/\l∈H'.log/\S H'):=by
 have no:q≠l:=by omega
 have ko:=hr.wf.fU go;have kl:=hr.wf.fU gl;refine FW.J6 hp (R:=λH'=>H'.get q=some (.cells (bxL (mY b c)) true 1)/\(∀z,z<H.next->z≠q->H'.get z=H.get z)/\H.next<=H'.next) gl rfl kl ⟨by omega,hlN⟩ ?_;unfold tZ;refine Y3 ?_;refine aO ?_;refine y1 ?_;refine⟨rfl,YG,?_⟩;unfold uf;refine oy ?_;refine WE.Kx ?_;intro hA hAe;have A1:∀z,z<H.next->z≠l->H.get z=hA.get z:=λz hz hne=>by rw[hAe];symm;simp(disch:=first|omega|(simp only[z1,z2];omega))only[z5,z4]
 have A3:hA.get H.next=some (.cells (ceL c) true 1):=by rw[hAe];(simp(disch:=first|omega|(simp only[z1,z2];omega))only[z3,z4,z5,z6,z7,z1,z2,gl,go];exact rfl)
 have A2:hA.get l=some (.loop [(2,fv2),(4, .pointer (some ⟨q,0,none⟩)),(15,fv)] [16] tZ uf 1 .normal):=by rw[hAe];(simp(disch:=first|omega|(simp only[z1,z2];omega))only[z3,z4,z5,z6,z7,z1,z2,gl,go,A3];exact rfl)
 have A5:hA.next=H.next+1:=by rw[hAe];rfl
 have A6:hA.log=[]:=by rw[hAe];simp(disch:=first|omega|(simp only[z1,z2];omega))only[Heap.aq,Heap.uC];exact hr.log
 have A7:WF hA:=by rw[hAe];exact(((hr.wf.push _).as (AS.wr _ _ _ _)).as (AS.wr _ _ _ _))
 clear hAe;have Bo:=(A1 q ko no).symm.trans go;obtain⟨⟨x1,y1',z1'⟩,⟨x2,y2',z2'⟩⟩:=b;obtain⟨cx,cy,cz⟩:=c;unfold bxL ceL at Bo;dsimp only[List.cons_append,List.nil_append]at Bo;unfold ceL at A3;dsimp only at A3;clear go;refine Y34 ?_;refine eG (vs:=[.int .i64 x1, .int .i64 y1', .int .i64 z1', .int .i64 x2, .int .i64 y2', .int .i64 z2']) (ws:=[.int .i64 (mi x1 cx), .int .i64 y1', .int .i64 z1', .int .i64 x2, .int .i64 y2', .int .i64 z2']) rfl rfl rfl (by exact rfl) (by exact rfl) (by exact rfl) (Bo) (by exact rfl) (by exact rfl) (by show q<hA.next;omega) (by(repeat apply aK rfl);apply aM rfl (aG rfl (xz (by exact rfl) (by exact rfl)) (by exact eR _ _)) rfl;apply aM rfl (aG rfl (fq (by exact rfl) YG (by exact rfl)) (by exact eR _ _)) rfl;apply aM rfl (aG rfl (ez (by exact rfl)) (by exact dz _)) rfl;(repeat apply aK rfl);apply aM rfl (aG rfl (xz (by exact rfl) (by exact rfl)) (by exact eR _ _)) rfl;apply aM rfl (aG rfl (fq (by exact rfl) YG (by exact rfl)) (by exact eR _ _)) rfl;apply aM rfl (aG rfl (ez (by exact rfl)) (by exact dz _)) rfl;(repeat apply aK rfl);apply aM rfl (aG rfl (gG (by exact rfl)) (by exact dz _)) rfl;apply aM rfl (aG rfl (gG (by exact rfl)) (by exact dz _)) rfl;apply aK rfl;exact bV) ?_;refine Y2 ?_;refine eG (vs:=[.int .i64 (mi x1 cx), .int .i64 y1', .int .i64 z1', .int .i64 x2, .int .i64 y2', .int .i64 z2']) (ws:=[.int .i64 (mi x1 cx), .int .i64 (mi y1' cy), .int .i64 z1', .int .i64 x2, .int .i64 y2', .int .i64 z2']) rfl rfl rfl (by exact rfl) (by exact rfl) (by exact rfl) (Heap.aB (Bo)) (by exact rfl) (by exact rfl) (by show q<hA.next;omega) (by(repeat apply aK rfl);apply aM rfl (aG rfl (xz (by exact rfl) (by exact rfl)) (by exact eR _ _)) rfl;apply aM rfl (aG rfl (fq (by exact rfl) YG (by exact rfl)) (by exact eR _ _)) rfl;apply aM rfl (aG rfl (ez (by exact rfl)) (by exact dz _)) rfl;(repeat apply aK rfl);apply aM rfl (aG rfl (gG (by exact rfl)) (by exact dz _)) rfl;apply aK rfl;exact bV) ?_;refine Y2 ?_;refine eG (vs:=[.int .i64 (mi x1 cx), .int .i64 (mi y1' cy), .int .i64 z1', .int .i64 x2, .int .i64 y2', .int .i64 z2']) (ws:=[.int .i64 (mi x1 cx), .int .i64 (mi y1' cy), .int .i64 (mi z1' cz), .int .i64 x2, .int .i64 y2', .int .i64 z2']) rfl rfl rfl (by exact rfl) (by exact rfl) (by exact rfl) (Heap.aB (Heap.aB (Bo))) (by exact rfl) (by exact rfl) (by show q<hA.next;omega) (by(repeat apply aK rfl);exact bV) ?_;refine Y30 ?_;refine eG (vs:=[.int .i64 (mi x1 cx), .int .i64 (mi y1' cy), .int .i64 (mi z1' cz), .int .i64 x2, .int .i64 y2', .int .i64 z2']) (ws:=[.int .i64 (mi x1 cx), .int .i64 (mi y1' cy), .int .i64 (mi z1' cz), .int .i64 (mx x2 cx), .int .i64 y2', .int .i64 z2']) rfl rfl rfl (by exact rfl) (by exact rfl) (by exact rfl) (Heap.aB (Heap.aB (Heap.aB (Bo)))) (by exact rfl) (by exact rfl) (by show q<hA.next;omega) (by(repeat apply aK rfl);apply aM rfl (aG rfl (CN (by exact rfl) (by exact rfl)) (by exact eR _ _)) rfl;apply aM rfl (aG rfl (fq (by exact rfl) YG (by exact rfl)) (by exact eR _ _)) rfl;apply aM rfl (aG rfl (ez (by exact rfl)) (by exact dz _)) rfl;(repeat apply aK rfl);apply aM rfl (aG rfl (CN (by exact rfl) (by exact rfl)) (by exact eR _ _)) rfl;apply aM rfl (aG rfl (fq (by exact rfl) YG (by exact rfl)) (by exact eR _ _)) rfl;apply aM rfl (aG rfl (ez (by exact rfl)) (by exact dz _)) rfl;(repeat apply aK rfl);apply aM rfl (aG rfl (gG (by exact rfl)) (by exact dz _)) rfl;apply aM rfl (aG rfl (gG (by exact rfl)) (by exact dz _)) rfl;apply aK rfl;exact bV) ?_;refine Y2 ?_;refine eG (vs:=[.int .i64 (mi x1 cx), .int .i64 (mi y1' cy), .int .i64 (mi z1' cz), .int .i64 (mx x2 cx), .int .i64 y2', .int .i64 z2']) (ws:=[.int .i64 (mi x1 cx), .int .i64 (mi y1' cy), .int .i64 (mi z1' cz), .int .i64 (mx x2 cx), .int .i64 (mx y2' cy), .int .i64 z2']) rfl rfl rfl (by exact rfl) (by exact rfl) (by exact rfl) (Heap.aB (Heap.aB (Heap.aB (Heap.aB (Bo))))) (by exact rfl) (by exact rfl) (by show q<hA.next;omega) (by(repeat apply aK rfl);apply aM rfl (aG rfl (CN (by exact rfl) (by exact rfl)) (by exact eR _ _)) rfl;apply aM rfl (aG rfl (fq (by exact rfl) YG (by exact rfl)) (by exact eR _ _)) rfl;apply aM rfl (aG rfl (ez (by exact rfl)) (by exact dz _)) rfl;(repeat apply aK rfl);apply aM rfl (aG rfl (gG (by exact rfl)) (by exact dz _)) rfl;apply aK rfl;exact bV) ?_;refine Y2 ?_;refine eG (vs:=[.int .i64 (mi x1 cx), .int .i64 (mi y1' cy), .int .i64 (mi z1' cz), .int .i64 (mx x2 cx), .int .i64 (mx y2' cy), .int .i64 z2']) (ws:=[.int .i64 (mi x1 cx), .int .i64 (mi y1' cy), .int .i64 (mi z1' cz), .int .i64 (mx x2 cx), .int .i64 (mx y2' cy), .int .i64 (mx z2' cz)]) rfl rfl rfl (by exact rfl) (by exact rfl) (by exact rfl) (Heap.aB (Heap.aB (Heap.aB (Heap.aB (Heap.aB (Bo)))))) (by exact rfl) (by exact rfl) (by show q<hA.next;omega) (by(repeat apply aK rfl);exact bV) ?_;refine Y3 ?_;refine⟨⟨_,YG,rfl⟩,λz hz=> ?_, .inl ⟨rfl,λh5 hn h5e h5l=> ?_⟩⟩
 ·have key:z=q:=by
   rcases dx hz with h|hz
   ·exact h
   rcases dx hz with h|hz
   ·exact h
   rcases dx hz with h|hz
   ·exact h
   rcases dx hz with h|hz
   ·exact h
   rcases dx hz with h|hz
   ·exact h
   rcases dx hz with h|hz
   ·exact h
   rw[A6]at hz;cases hz
  subst key;exact⟨hlo,by omega⟩
 ·refine⟨(h5e q ko no).trans (Heap.aB (Heap.aB (Heap.aB (Heap.aB (Heap.aB (Heap.aB (Bo))))))),λz hz hne=> ?_,hn⟩;by_cases hl:z=l
  ·subst hl;rw[gl];exact h5l
  ·refine(h5e z hz hl).trans ?_;refine Eq.trans ?_ (A1 z hz hl).symm;simp only[z5 hne]
structure PXo (l q:Nat) (H0:Heap) (L:bO) (f:List Ce->List Value) (done:List Ce) (H:Heap):Prop where
 old:∀z,z<l->z≠q->H.get z=H0.get z
 loop:H.get l=some L
 val:H.get q=some (.cells (f done) true 1)
theorem PXo.fF{l q:Nat}{H0:Heap}{L:bO}{f:List Ce->List Value}(hq:q<l)(done:List Ce)(H H':Heap)(p:PXo l q H0 L f done H)(_:l+1<=H'.next)(h:∀x,x<l+1->H'.get x=H.get x):PXo l q H0 L f done H':=
 ⟨λz hz hne=>(h z (by omega)).trans (p.old z hz hne),(h l (by omega)).trans p.loop,(h q (by omega)).trans p.val⟩
def dB(s:List Nat):Bx×Bool:=if s=s0 then(⟨c0,c0⟩,false)else(bxS (aW s 512),true)
def Gh(p:Bx×Bool):Value:= .tuple #[bxV p.1, .bool p.2]
structure Mr (T:Nat->Option af):Prop where
 cp:CG T
 f210:T 124=some f210
theorem vP(F:Mr T){h:Heap}(hr:Rdy h)(hg:Tab h)(h2:0<h.next){s:List Nat}(hs:IsS s):Pu T 124 [sv s] h (Gh (dB s)):=by
 have hp:=F.cp.p;refine .of hp F.f210 hr rfl ?_;have k8:=aR hs.len;have k9:=bR hs.len;have x0:Ext h ((h.push (.cells (cellsOf (sv s)) true 1)).push (.cells [I.O,I.O,I.O,I.O,I.O,I.O] true 1)):=((Ext.refl h).push _).push _;have g0:((h.push (.cells (cellsOf (sv s)) true 1)).push (.cells [I.O,I.O,I.O,I.O,I.O,I.O] true 1)).get h.next=some (.cells (us s) true 1):=(z4 (Nat.lt_succ_self _)).trans (z3 h _)
 have g1:((h.push (.cells (cellsOf (sv s)) true 1)).push (.cells [I.O,I.O,I.O,I.O,I.O,I.O] true 1)).get (h.next+1)=some (.cells [I.O,I.O,I.O,I.O,I.O,I.O] true 1):=z3 _ _;have n0:((h.push (.cells (cellsOf (sv s)) true 1)).push (.cells [I.O,I.O,I.O,I.O,I.O,I.O] true 1)).next=h.next+2:=rfl
 refine Y5 ?_;generalize((h.push (.cells (cellsOf (sv s)) true 1)).push (.cells [I.O,I.O,I.O,I.O,I.O,I.O] true 1))=H at*;have W:=x0.wf hr.wf;have hL:=x0.log.trans hr.log;unfold dB;by_cases he:s=s0
 ·rw[if_pos he];have ck0:bB 6 (bA 0 (bxL ⟨c0,c0⟩))=bxL ⟨c0,c0⟩:=rfl;refine Y4 ?_;refine aA (j0 (b:=s0) (by exact rfl) (by exact rfl) hs.len rfl) ?_;rw[decide_eq_true he];refine Y9 ?_;refine ak ?_ (bH (own:=true) (s:=1) (l:=bxL ⟨c0,c0⟩) rfl ?_ ck0 rfl rfl) rfl
  ·rw[Heap.aq (by show h.next<=h.next+1;omega)];exact hL
  ·exact YG
 ·rw[if_neg he];have x1:=dI (h:=H) (base:=h.next) (by omega) (.cells [I.O,I.O,I.O,I.O,I.O,I.O] true 1) (.cells (bxL bx0) true 1);have q1:=ef (h:=H) (base:=h.next) [I.O,I.O,I.O,I.O,I.O,I.O] (bxL bx0);refine Y4 ?_;refine aA (j0 (b:=s0) (by exact rfl) (by exact rfl) hs.len rfl) ?_;rw[decide_eq_false he];refine Y4 ?_;refine aX (E0:=[(1, .pointer (some ⟨h.next,0,none⟩)),(2, .pointer (some ⟨h.next+1,0,none⟩)),(4, .pointer (some ⟨H.next,0,none⟩))]) (P:=λh'=>Ext H h'∧h'.next=H.next+1/\h'.get H.next=some (.cells (bxL bx0) true 1)) ?_ ?_
  ·refine Y5 ?_;refine aO ?_;refine y1 ?_;exact⟨rfl,rfl,rfl,dI (by omega) _ _,rfl,ef _ _⟩
  rintro H1 ⟨x1,n1,q1⟩;have ey1':=x0.trans x1;have W1:=ey1'.wf hr.wf;have hL1:=ey1'.log.trans hr.log;have ga:=(x1.old _ (by omega)).trans g0;have gb:=(x1.old _ (by omega)).trans g1;have C:=zV F.cp (h:={H1 with log:=[]}) (.of W1) hs;clear g0 g1;refine Y4 ?_;refine FW.al C (λv h' m q=>q) ?_;rintro _ H2 x2 ⟨q,rfl,gq,q2,q3⟩;clear C;have q2:H1.next<=q:=q2
  have ey2':=ey1'.trans x2;have W2:=ey2'.wf hr.wf;have hL2:=ey2'.log.trans hr.log;have n2:=x2.next
  have gb2:=(x2.old _ (by omega)).trans gb;have q12:=(x2.old _ (by omega)).trans q1;have hg2:Tab H2:=hg.ext ey2' h2;clear ga gb q1;refine Y2 ?_;refine wZ (lo:=H.next) (P:=PXo H2.next H.next H2 (.loop [(2, .pointer (some ⟨h.next+1,0,none⟩)),(4, .pointer (some ⟨H.next,0,none⟩)),(15,fnC q)] [16] tZ uf 0 .normal) (λd=>bxL (bxS d)) (aW s 512)) (S:=λ_=>False) rfl (by rfl) (by rw[F.cp.f265];rfl) (by omega) (by omega) hL2 W2 ?_ (λH p=>⟨_,_,_,_,p.loop⟩) (λH p=>p.elim) ?_ (λ_ _ _ _ _ _ _ p=>p.elim)
  ·have Y:FJ T H.next (H2.next+1) H2.next ceV (aW s 512) (PXo H2.next H.next H2 (.loop [(2, .pointer (some ⟨h.next+1,0,none⟩)),(4, .pointer (some ⟨H.next,0,none⟩)),(15,fnC q)] [16] tZ uf 0 .normal) (λd=>bxL (bxS d))) (λ_=>False):=by
    refine⟨λdone x Hh hx hrH hN hP=> ?_,PXo.fF (by omega),λ_ _ h=>h,λ_ h=>h.elim⟩;refine FW.mono' (Gn hp hrH (lo:=H.next) (N:=H2.next+1) (S:=λ_=>False) (Nat.le_refl _) (by omega) (by omega) hP.loop hP.val) ?_;rintro r' H' ⟨r1,r2⟩;refine⟨r1,r2.imp (λ⟨e,g,o,_⟩=>⟨e,λz hz hne=>(o z (by omega) hne).trans (hP.old z hz hne),(o _ (by omega) (by omega)).trans hP.loop,?_⟩) id⟩;rw[Gk];exact g
   exact vR F.cp (.of (W2.push _)) (q0:=q) (l:=H2.next) (N:=H2.next+1) (lo:=H.next) hs (Nat.le_refl _) (by show H.next<=H2.next+1;omega) (Nat.lt_succ_self _) Y ((z4 (by omega)).trans gq) (λd H' hP=>(hP.old 0 (by omega) (by omega)).trans hg2)
    ⟨λz hz _=>z4 hz,z3 _ _,(z4 (by omega)).trans q12⟩
  intro h4 h5 k1 k2 k3 k4 k5 hP;have D:=(k5 H.next (by omega)).trans hP.val;have D2:=(k5 (h.next+1) (by omega)).trans ((hP.old _ (by omega) (by omega)).trans gb2);generalize bxS (aW s 512)=b at*;have ck:bB 6 (bA 0 (bxL b))=bxL b:=rfl;have ckl:Nat.beq (bK (bxL b)) 6=true:=rfl;refine Y8 ?_;refine ak ?_ (bH (own:=true) (s:=1) (l:=bxL b) rfl ?_ ck ckl rfl) rfl
  ·rw[Heap.aq (by show h.next<=h.next+1;omega)];exact k1
  ·exact YG
def dM:Nat->Ce->Ce
 |0,c=>c
 |1,c=>⟨c.x,7-c.z,c.y⟩
 |2,c=>⟨c.x,7-c.y,7-c.z⟩
 |3,c=>⟨c.x,c.z,7-c.y⟩
 |4,c=>⟨c.z,c.y,7-c.x⟩
 |_,c=>⟨7-c.z,c.y,c.x⟩
def EW(c:Ce):Ce:=⟨7-c.y,c.x,c.z⟩
def qU:Nat->Ce->Ce
 |0,c=>c
 |n+1,c=>EW (qU n c)
def gH(t:Nat)(c:Ce):Ce:=qU (t % 4) (dM (t / 4) c)
structure InB (c:Ce):Prop where
 x:0<=c.x/\c.x<=7
 y:0<=c.y/\c.y<=7
 z:0<=c.z/\c.z<=7
theorem jK{c:Ce}:inG c=true↔InB c:=by
 unfold inG;rw[decide_eq_true_eq];exact⟨λh=>⟨h.1,h.2.1,h.2.2⟩,λh=>⟨h.x,h.y,h.z⟩⟩
theorem InB.OG{c:Ce}(h:InB c)(k:Nat):InB (dM k c):=by
 obtain⟨h1,h2,h3⟩:=h;unfold dM;split<;>(constructor<;>(first|omega|(dsimp only;omega)))
theorem InB.rot{c:Ce}(h:InB c):∀n,InB (qU n c)
 |0=>h
 |n+1=>by
  obtain⟨h1,h2,h3⟩:=h.rot n;unfold qU EW;exact⟨by dsimp only;omega,h1,h3⟩
theorem InB.T3{c:Ce}(h:InB c)(t:Nat):InB (gH t c):=(h.OG _).rot _
theorem dn{a:Int}(h:0<=a/\a<=7):ah .sub (.int .i64 7) (.int .i64 a)=some (.int .i64 (7-a)):=mW (bJ (by omega) (by omega))
theorem Hv{a:Nat}:ah .rem (.int .i64 a) (.int .i64 4)=some (.int .i64 ((a % 4:Nat):Int)):=by
 have e:(a:Int).tmod 4=((a % 4:Nat):Int):=by rw[Int.tmod_eq_emod_of_nonneg (by omega)];omega
 simp[ah,arith,e]
theorem Hu{a:Nat}(h1:a<9223372036854775808):ah .quo (.int .i64 a) (.int .i64 4)=some (.int .i64 ((a / 4:Nat):Int)):=by
 have e:fG .i64 ((a:Int).tdiv 4)=((a / 4:Nat):Int):=by
  rw[Int.tdiv_eq_ediv_of_nonneg (by omega),bJ (by omega) (by omega)];omega
 have e2:ah .quo (.int .i64 a) (.int .i64 4)=some (.int .i64 (fG .i64 ((a:Int).tdiv 4))):=rfl;rw[e2,e]
structure qf (T:Nat->Option af):Prop where
 p:aV T
 f263:T 145=some f263
 f317:T 164=some f317
 f318:T 165=some f318
 f319:T 166=some f319
 f320:T 167=some f320
 f321:T 168=some f321
 f322:T 169=some f322
theorem Q4(F:qf T){h:Heap}(hr:Rdy h)(v:Value){c:Ce}(hc:InB c):Pu T 164 [v,ceV c] h (ceV (dM 0 c)):=by
 refine .of F.p F.f317 hr rfl ?_;obtain⟨cx,cy,cz⟩:=c;obtain⟨hx,hy,hz⟩:=hc;dsimp only at hx hy hz;have mx:=dn hx;have my:=dn hy;have mz:=dn hz;have ck:bB 3 (bA 0 (ceL (dM 0 ⟨cx,cy,cz⟩)))=ceL (dM 0 ⟨cx,cy,cz⟩):=rfl;refine Y9 ?_;refine ak ?_ (bH (own:=true) (s:=1) rfl ?_ ck rfl rfl) rfl
 ·rw[Heap.aq (by show h.next<=h.next+1;omega)];exact hr.log
 ·exact YG
theorem Q5(F:qf T){h:Heap}(hr:Rdy h)(v:Value){c:Ce}(hc:InB c):Pu T 165 [v,ceV c] h (ceV (dM 1 c)):=by
 refine .of F.p F.f318 hr rfl ?_;obtain⟨cx,cy,cz⟩:=c;obtain⟨hx,hy,hz⟩:=hc;dsimp only at hx hy hz;have mx:=dn hx;have my:=dn hy;have mz:=dn hz;have ck:bB 3 (bA 0 (ceL (dM 1 ⟨cx,cy,cz⟩)))=ceL (dM 1 ⟨cx,cy,cz⟩):=rfl;refine Y16 ?_;refine ak ?_ (bH (own:=true) (s:=1) rfl ?_ ck rfl rfl) rfl
 ·rw[Heap.aq (by show h.next<=h.next+1;omega)];exact hr.log
 ·exact YG
theorem Q6(F:qf T){h:Heap}(hr:Rdy h)(v:Value){c:Ce}(hc:InB c):Pu T 166 [v,ceV c] h (ceV (dM 2 c)):=by
 refine .of F.p F.f319 hr rfl ?_;obtain⟨cx,cy,cz⟩:=c;obtain⟨hx,hy,hz⟩:=hc;dsimp only at hx hy hz;have mx:=dn hx;have my:=dn hy;have mz:=dn hz;have ck:bB 3 (bA 0 (ceL (dM 2 ⟨cx,cy,cz⟩)))=ceL (dM 2 ⟨cx,cy,cz⟩):=rfl;refine Y17 ?_;refine ak ?_ (bH (own:=true) (s:=1) rfl ?_ ck rfl rfl) rfl
 ·rw[Heap.aq (by show h.next<=h.next+1;omega)];exact hr.log
 ·exact YG
theorem Q7(F:qf T){h:Heap}(hr:Rdy h)(v:Value){c:Ce}(hc:InB c):Pu T 167 [v,ceV c] h (ceV (dM 3 c)):=by
 refine .of F.p F.f320 hr rfl ?_;obtain⟨cx,cy,cz⟩:=c;obtain⟨hx,hy,hz⟩:=hc;dsimp only at hx hy hz;have mx:=dn hx;have my:=dn hy;have mz:=dn hz;have ck:bB 3 (bA 0 (ceL (dM 3 ⟨cx,cy,cz⟩)))=ceL (dM 3 ⟨cx,cy,cz⟩):=rfl;refine Y16 ?_;refine ak ?_ (bH (own:=true) (s:=1) rfl ?_ ck rfl rfl) rfl
 ·rw[Heap.aq (by show h.next<=h.next+1;omega)];exact hr.log
 ·exact YG
theorem Q8(F:qf T){h:Heap}(hr:Rdy h)(v:Value){c:Ce}(hc:InB c):Pu T 168 [v,ceV c] h (ceV (dM 4 c)):=by
 refine .of F.p F.f321 hr rfl ?_;obtain⟨cx,cy,cz⟩:=c;obtain⟨hx,hy,hz⟩:=hc;dsimp only at hx hy hz;have mx:=dn hx;have my:=dn hy;have mz:=dn hz;have ck:bB 3 (bA 0 (ceL (dM 4 ⟨cx,cy,cz⟩)))=ceL (dM 4 ⟨cx,cy,cz⟩):=rfl;refine Y16 ?_;refine ak ?_ (bH (own:=true) (s:=1) rfl ?_ ck rfl rfl) rfl
 ·rw[Heap.aq (by show h.next<=h.next+1;omega)];exact hr.log
 ·exact YG
theorem Q9(F:qf T){h:Heap}(hr:Rdy h)(v:Value){c:Ce}(hc:InB c):Pu T 169 [v,ceV c] h (ceV (dM 5 c)):=by
 refine .of F.p F.f322 hr rfl ?_;obtain⟨cx,cy,cz⟩:=c;obtain⟨hx,hy,hz⟩:=hc;dsimp only at hx hy hz;have mx:=dn hx;have my:=dn hy;have mz:=dn hz;have ck:bB 3 (bA 0 (ceL (dM 5 ⟨cx,cy,cz⟩)))=ceL (dM 5 ⟨cx,cy,cz⟩):=rfl;refine Y16 ?_;refine ak ?_ (bH (own:=true) (s:=1) rfl ?_ ck rfl rfl) rfl
 ·rw[Heap.aq (by show h.next<=h.next+1;omega)];exact hr.log
 ·exact YG
theorem Ra(F:qf T){h:Heap}(hr:Rdy h)(v:Value){c:Ce}(hc:InB c):∀k,k<6->Pu T (164+k) [v,ceV c] h (ceV (dM k c))
 |0,_=>Q4 F hr v hc
 |1,_=>Q5 F hr v hc
 |2,_=>Q6 F hr v hc
 |3,_=>Q7 F hr v hc
 |4,_=>Q8 F hr v hc
 |5,_=>Q9 F hr v hc
 |k+6,h=>by omega
def td(k:Nat):Value:= .func (.func (164+k)) #[.int .i64 0] #[]
def Jc:List Value:=[td 0,td 1,td 2,td 3,td 4,td 5]
theorem Jd:∀k,k<6->aT Jc (0+k*1)=some (td k)
 |0,_=>rfl
 |1,_=>rfl
 |2,_=>rfl
 |3,_=>rfl
 |4,_=>rfl
 |5,_=>rfl
 |k+6,h=>by omega
theorem Fo(F:qf T){h:Heap}(hr:Rdy h){c:Ce}(hc:InB c){t:Nat}(ht:t<24):Pu T 145 [ceV c, .int .i64 (t:Nat)] h (ceV (gH t c)):=by
 refine .of F.p F.f263 hr rfl ?_;have x0:Ext h ((h.push (.cells (cellsOf (ceV c)) true 1)).push (.cells [I.O,I.O,I.O] true 1)):=((Ext.refl h).push _).push _;have g0:((h.push (.cells (cellsOf (ceV c)) true 1)).push (.cells [I.O,I.O,I.O] true 1)).get h.next=some (.cells (ceL c) true 1):=(z4 (Nat.lt_succ_self _)).trans (z3 h _)
 have g1:((h.push (.cells (cellsOf (ceV c)) true 1)).push (.cells [I.O,I.O,I.O] true 1)).get (h.next+1)=some (.cells [I.O,I.O,I.O] true 1):=z3 _ _;have n0:((h.push (.cells (cellsOf (ceV c)) true 1)).push (.cells [I.O,I.O,I.O] true 1)).next=h.next+2:=rfl
 refine Y4 ?_;generalize((h.push (.cells (cellsOf (ceV c)) true 1)).push (.cells [I.O,I.O,I.O] true 1))=H at*;have W:=x0.wf hr.wf;have hL:=x0.log.trans hr.log;refine Y3 ?_;refine aX (E0:=[(1, .int .i64 (t:Nat)),(2, .pointer (some ⟨h.next,0,none⟩)),(4, .pointer (some ⟨h.next+1,0,none⟩)),(6, .pointer (some ⟨H.next,0,none⟩))]) (P:=λh'=>Ext H h'∧h'.next=H.next+1/\h'.get H.next=some (.cells Jc true 1)) ?_ ?_
 ·refine Y16 ?_;refine aO ?_;refine y1 ?_;exact⟨rfl,rfl,rfl,dI (by omega) _ _,rfl,ef _ _⟩
 rintro H1 ⟨x1,n1,q1⟩;have ey1':=x0.trans x1;have W1:=ey1'.wf hr.wf;have hL1:=ey1'.log.trans hr.log;have ga:=(x1.old _ (by omega)).trans g0;have gb:=(x1.old _ (by omega)).trans g1;have hk:t / 4<6:=by omega
 have m1:ah .quo (.int .i64 (t:Nat)) (.int .i64 4)=some (.int .i64 ((t / 4:Nat):Int)):=Hu (by omega);have m2:ah .rem (.int .i64 (t:Nat)) (.int .i64 4)=some (.int .i64 ((t % 4:Nat):Int)):=Hv;have e1:=Jd (t / 4) hk;have C:=Ra F (h:={H1 with log:=[]}) (.of W1) (.int .i64 0) hc (t / 4) hk;have hb:=hc.OG (t / 4);have hr4:t % 4<4:=by omega
 have ck:bB 3 (bA 0 (ceL c))=ceL c:=rfl;have ckl:Nat.beq (bK (ceL c)) 3=true:=rfl;unfold gH;generalize hq:dM (t / 4) c=d at*;generalize t / 4=k at*;generalize t % 4=r at*;unfold td at e1;clear g0 g1;refine Y8 ?_;refine FW.puD C (by(repeat apply aK rfl);exact bV) ?_;clear C;refine gI rfl rfl rfl (by exact rfl) (by exact rfl) (by exact rfl) (by assumption) (by exact rfl) (by exact rfl) (by omega) (by omega) (by exact bV) ?_;refine Y10 ?_
 refine bW (λm e ds h'=>∃j:Nat,j<=r/\r-j=m/\e=[(2, .pointer (some ⟨h.next,0,none⟩)),(4, .pointer (some ⟨h.next+1,0,none⟩)),(27, .int .i64 (r:Nat)),(28, .int .i64 (j:Nat))]/\ds=[]/\Ext h h'∧h.next+2<=h'.next/\h'.get h.next=some (.cells (ceL (qU j d)) true 1)/\h'.get (h.next+1)=some (.cells [I.O,I.O,I.O] true 1))
  ⟨0,Nat.zero_le _,rfl,rfl,rfl,⟨ey1'.next,(Heap.aq (by omega)).trans ey1'.log,λb hb=>(z5 (by omega)).trans (ey1'.old b hb),λw=>(ey1'.wf w).as (AS.wr h.next _ _ _)⟩,by show h.next+2<=H1.next;omega,by rw[z6,ga];rfl,(z5 (by omega)).trans gb⟩ ?_
 rintro m e ds h' ⟨j,hj,rfl,rfl,rfl,x,hn,gc,gd⟩;have hbj:=hb.rot j;by_cases hlt:j<r
 ·have hro:qU (j+1) d=EW (qU j d):=rfl;generalize qU j d=b at*;obtain⟨bx,by',bz⟩:=b;obtain⟨_,hy,_⟩:=hbj;dsimp only at hy;have my:=dn hy;unfold EW at hro;dsimp only at hro;refine Y19 ?_;refine aO ?_;refine Y7 ?_;refine⟨r-(j+1),by omega,j+1,by omega,rfl,rfl,rfl,⟨x.next,(Heap.aq (by omega)).trans x.log,λb hb=>(z5 (by omega)).trans (x.old b hb),λw=>(x.wf w).as (AS.wr h.next _ _ _)⟩,hn,?_,(z5 (by omega)).trans gd⟩;rw[z6,gc,hro];rfl
 ·obtain rfl:j=r:=by omega
  generalize qU j d=b at*;have ckb:bB 3 (bA 0 (ceL b))=ceL b:=rfl;have ckbl:Nat.beq (bK (ceL b)) 3=true:=rfl;refine Y15 ?_;refine ak ?_ (bH (own:=true) (s:=1) rfl ?_ ckb ckbl rfl) rfl
  ·rw[Heap.aq (by show h.next<=h.next+1;omega)];exact x.log.trans hr.log
  ·exact YG
end Go.A.Pk
end
section
namespace Go.A.Pk
variable {T:Nat->Option af}
def kW(o:List Nat)(c:Ce):List Nat:=o.set c.z.toNat (Nat.lor (o.getD c.z.toNat 0) (2 ^ (8*c.y.toNat+c.x.toNat)))
theorem tM(o:List Nat){z i:Nat}(hi:i<64):kW o (eC z i)=o.set z (Nat.lor (o.getD z 0) (2 ^ i)):=by
 unfold kW eC;dsimp only;rw[show((z:Nat):Int).toNat=z by omega,show 8*((i / 8:Nat):Int).toNat+((i % 8:Nat):Int).toNat=i by omega]
theorem IsS.kW{o:List Nat}(h:IsS o){c:Ce}(hc:inG c=true):IsS (Pk.kW o c):=by
 obtain⟨z,i,hz,hi,rfl⟩:=iB hc;rw[tM o hi];refine⟨by rw[List.length_set];exact h.len,λx hx=> ?_⟩;rcases List.mem_or_eq_of_mem_set hx with h1|h1
 ·exact h.lt x h1
 ·rw[h1];exact NI (h.jJ z) (qS hi)
def jX(f:Ce->Ce)(l:List Ce):List Nat:=l.foldl (λo c=>kW o (f c)) s0
def kT(f:Ce->Ce)(s:List Nat):List Nat:=jX f (aW s 512)
theorem oO(f:Ce->Ce)(l:List Ce)(c:Ce):jX f (l++[c])=kW (jX f l) (f c):=by unfold jX;rw[List.foldl_append];rfl
theorem oN{f:Ce->Ce}:∀{l:List Ce},(∀c∈l,inG (f c)=true)->IsS (jX f l):=by
 intro l;have:∀(l:List Ce) (o:List Nat),IsS o->(∀c∈l,inG (f c)=true)->IsS (l.foldl (λo c=>kW o (f c)) o):=by
  intro l;induction l with
  |nil=>intro o ho _;exact ho
  |cons c l ih=>intro o ho hl;exact ih _ (ho.kW (hl c List.mem_cons_self)) λx hx=>hl x (List.mem_cons_of_mem _ hx)
 exact λhl=>this l s0 om hl
theorem zC{o:List Nat}{z v:Nat}(hz:z<o.length):bZ (us o) (0+z*1) (cellsOf (.int .u64 (v:Nat)))=us (o.set z v):=by
 show bZ (us o) (0+z*1) [.int .u64 (v:Nat)]=_;rw[Nat.zero_add,Nat.mul_one,gM (by rw[aI];simp;omega)];unfold us;rw[List.map_set,List.set_eq_take_append_cons_drop,if_pos (by simpa using hz)];simp
section
open I
def rN:aQ:=I.R [g 7 (.new [O,O,O]),S 3 7 11] [3,4,5,6,7]
def rQ:aQ:=(.block 1 (Q (I.R [L 12 3,N 13 3 7,g 14 (.call (t 12) [(t 13)]),g 8 (.new [O,O,O]),S 3 8 14] [4,5,6,8])
 (Q (.seq (I.R [N 15 3 8,g 16 (.call (.func 76) [(t 15)]),g 17 (.un .not (t 16))] [4,5,6,8,17])
 (.cond (t 17) (Q (I.R [g 18 (.build (aL 8 (.int .u64 0)) []),S 8 4 18,⟨none, .store 1 (t 5) (.const (.bool false)),none⟩] [])
 .ret) .skip))
 (.draw [A 19 2 8,L 20 19,g 21 (.bI 8 1 (t 6) (t 20)),L 22 21,N 23 3 8,g 24 (.call (.func 77) [(t 23)]),B 25 .or 22 24,g 26 (.bI 8 1 (t 6) (t 20)),S 1 26 25] [0,1,2,3,4,5,6,7,8] [0,1,3,7,0,16,63,127,255] []))))
end
structure zM (T:Nat->Option af):Prop where
 cp:CG T
 tu:qf T
 f126:T 76=some f126
 f127:T 77=some f127
 f211:T 125=some f211
 f215:T 122=some f215
 f261:T 143=some f261
 f262:T 144=some f262
theorem Ej(F:zM T){H:Heap}(hr:Rdy H){q l lo N b3 b4 b5 gf:Nat}{cap fv:Value}{o:List Nat}(ho:IsS o){c d:Ce}(hd:inG d=true)(hlo:lo<=q)(hql:q<l)(hlN:l<N)(h3q:b3<q)
 (gl:H.get l=some (.loop [(3, .pointer (some ⟨b3,0,none⟩)),(4, .pointer (some ⟨b4,0,none⟩)),(5, .pointer (some ⟨b5,0,none⟩)),(6, .pointer (some ⟨q,0,none⟩)),(10,fv)] [11] rN rQ 0 .normal))
 (g3:H.get b3=some (.cells [.func (.func gf) #[] #[cap]] true 1))
 (hto:∀H':Heap,WF H'→(∀z,z<b3->H'.get z=H.get z)->Pu T gf [ceV c,cap] {H' with log:=[]} (ceV d))
 (go:H.get q=some (.cells (us o) true 1)){S:Heap->Prop}:
 FW T (.yield l) [ceV c] H λr H'=>(∀z∈H'.log,lo<=z/\z<N)/\(r= .ret (.bool true)/\(H'.get q=some (.cells (us (kW o d)) true 1)/\(∀z,z<H.next->z≠q->H'.get z=H.get z)/\H.next<=H'.next)∨r= .ret (.bool false)/\l∈H'.log/\S H'):=by
 have hp:=F.cp.p;have no:q≠l:=by omega
 have ko:=hr.wf.fU go;have kl:=hr.wf.fU gl;have k3:=hr.wf.fU g3;refine FW.J6 hp (R:=λH'=>H'.get q=some (.cells (us (kW o d)) true 1)/\(∀z,z<H.next->z≠q->H'.get z=H.get z)/\H.next<=H'.next) gl rfl kl ⟨by omega,hlN⟩ ?_;unfold rN;refine Y3 ?_;refine aO ?_;refine y1 ?_;refine⟨rfl,YG,?_⟩;unfold rQ;refine oy ?_;refine WE.Kx ?_;intro hA hAe;have A1:∀z,z<H.next->z≠l->H.get z=hA.get z:=λz hz hne=>by rw[hAe];symm;simp(disch:=first|omega|(simp only[z1,z2];omega))only[z5,z4]
 have A3:hA.get H.next=some (.cells (ceL c) true 1):=by rw[hAe];(simp(disch:=first|omega|(simp only[z1,z2];omega))only[z3,z4,z5,z6,z7,z1,z2,gl,g3,go];exact rfl)
 have A2:hA.get l=some (.loop [(3, .pointer (some ⟨b3,0,none⟩)),(4, .pointer (some ⟨b4,0,none⟩)),(5, .pointer (some ⟨b5,0,none⟩)),(6, .pointer (some ⟨q,0,none⟩)),(10,fv)] [11] rN rQ 1 .normal):=by rw[hAe];(simp(disch:=first|omega|(simp only[z1,z2];omega))only[z3,z4,z5,z6,z7,z1,z2,gl,g3,go,A3];exact rfl)
 have A5:hA.next=H.next+1:=by rw[hAe];rfl
 have A6:hA.log=[]:=by rw[hAe];simp(disch:=first|omega|(simp only[z1,z2];omega))only[Heap.aq,Heap.uC];exact hr.log
 have A7:WF hA:=by rw[hAe];exact(((hr.wf.push _).as (AS.wr _ _ _ _)).as (AS.wr _ _ _ _))
 clear hAe;have Bo:=(A1 q ko no).symm.trans go;have B3:=(A1 b3 k3 (by omega)).symm.trans g3;have C1:=hto hA A7 λz hz=>(A1 z (by omega) (by omega)).symm;have ck:bB 3 (bA 0 (ceL c))=ceL c:=rfl;have ckl:Nat.beq (bK (ceL c)) 3=true:=rfl;clear go hto;refine aX (E0:=[(4, .pointer (some ⟨b4,0,none⟩)),(5, .pointer (some ⟨b5,0,none⟩)),(6, .pointer (some ⟨q,0,none⟩)),(8, .pointer (some ⟨hA.next,0,none⟩))]) (P:=λh'=>Ext hA h'∧h'.next=hA.next+1/\h'.get hA.next=some (.cells (ceL d) true 1)) ?_ ?_
 ·refine Y4 ?_;refine FW.pu C1 ?_;clear C1;refine Y2 ?_;refine aO ?_;refine y1 ?_;exact⟨rfl,rfl,rfl,dI (by omega) _ _,rfl,ef _ _⟩
 rintro hB ⟨xB,nB,gB⟩;clear C1 A3;have WB:=xB.wf A7;have LB:=xB.log.trans A6;have Bo2:=(xB.old _ (by omega)).trans Bo;have Bl2:=(xB.old _ (by omega)).trans A2;have C2:=Ef hp F.f126 F.f215 (h:={hB with log:=[]}) (.of WB) d;rw[hd]at C2;obtain⟨z,i,hz,hi,rfl⟩:=iB hd;have C3:=Nc hp F.f127 (h:={hB with log:=[]}) (.of WB) (z:=z) hi;have ckd:bB 3 (bA 0 (ceL (eC z i)))=ceL (eC z i):=rfl;have ckdl:Nat.beq (bK (ceL (eC z i))) 3=true:=rfl;have lz:aT (ceL (eC z i)) (0+2)=some (.int .i64 ((z:Nat):Int)):=rfl;have e1:=pX (jI (s:=o) (i:=z) (by rw[ho.len];exact hz));have m1:=QG (a:=o.getD z 0) (b:=2 ^ i) (ho.jJ z) (qS hi);have kw:=zC (o:=o) (z:=z) (v:=Nat.lor (o.getD z 0) (2 ^ i)) (by rw[ho.len];exact hz);rw[←tM o hi]at kw;have kc:(Nat.beq (bK (cellsOf (.int .u64 ((Nat.lor (o.getD z 0) (2 ^ i):Nat):Int)))) 1&&Nat.ble (0+z*1+1) (bK (us o))&&cK (cellsOf (.int .u64 ((Nat.lor (o.getD z 0) (2 ^ i):Nat):Int))))=true:=by
  rw[bM (us o),aI,ho.len,eT (by omega)];rfl
 clear Bo A2 B3 g3;refine Y4 ?_;refine FW.pu C2 ?_;clear C2;refine Y12 ?_;refine FW.puD C3 (by apply aK rfl;apply aM rfl (aG rfl (fq (by exact rfl) (by assumption) (by assumption)) (by exact eR _ _)) rfl;apply aM rfl (aG rfl (lW (by exact rfl) (by exact rfl) (by omega)) (by exact dz _)) rfl;apply aM rfl (aG rfl (fq (by exact rfl) (by assumption) (by exact rfl)) (by exact eR _ _)) rfl;apply aM rfl (aG rfl (ez (by exact rfl)) (by exact dz _)) rfl;exact bV) ?_;clear C3;refine Y2 ?_;refine eG (vs:=us o) (ws:=us (kW o (eC z i))) rfl rfl rfl (by exact rfl) (by exact rfl) (by exact rfl) Bo2 kc kw (by omega) (by(repeat apply aK rfl);exact bV) ?_;refine Y3 ?_;refine⟨⟨_,YG,rfl⟩,λz hz=> ?_, .inl ⟨rfl,λh5 hn h5e h5l=> ?_⟩⟩
 ·have key:z=q:=by
   rcases dx hz with h|hz
   ·exact h
   rw[LB]at hz;cases hz
  subst key;exact⟨hlo,by omega⟩
 ·refine⟨(h5e q ko no).trans (Heap.aB Bo2),λz hz hne=> ?_,hn⟩;by_cases hl:z=l
  ·subst hl;rw[gl];exact h5l
  ·refine(h5e z hz hl).trans ?_;rw[z5 hne,xB.old z (by omega)];exact(A1 z hz hl).symm
theorem jt{s:List Nat}{n:Nat}{c:Ce}(h:c∈aW s n):inG c=true:=by
 have:=Em h;by_cases hc:inG c=true
 ·exact hc
 ·rw[jg hc]at this;cases this
theorem Dp{f:Ce->Ce}{s:List Nat}(hin:∀c,inG c=true->inG (f c)=true):IsS (kT f s):=oN λc hc=>hin c (jt hc)
theorem Ek(F:zM T){h:Heap}(hr:Rdy h)(hg:Tab h)(h2:0<h.next){s:List Nat}(hs:IsS s){gf:Nat}{cap:Value}{f:Ce->Ce}(hin:∀c,inG c=true->inG (f c)=true)
 (hto:∀H':Heap,WF H'→(∀z,z<h.next->H'.get z=h.get z)->∀c,inG c=true->Pu T gf [ceV c,cap] {H' with log:=[]} (ceV (f c))):
 Pu T 143 [sv s, .func (.func gf) #[] #[cap]] h (.tuple #[sv (kT f s), .bool true]):=by
 have hp:=F.cp.p;have hms:=Dp (s:=s) hin;refine .of hp F.f261 hr (by
  have h1:flat (sv (kT f s))=true:=jk _;show iP [sv (kT f s), .bool true]=true;simp only[iP,h1,cond_true];rfl) ?_
 have k8:=aR hs.len;have k9:=bR hs.len;have x0:Ext h (((((h.push (.cells (cellsOf (sv s)) true 1)).push (.cells (cellsOf (.func (.func gf) #[] #[cap])) true 1)).push (.cells (aL 8 (.int .u64 0)) true 1)).push (.cells [.bool false] true 1)).push (.cells (aL 8 (.int .u64 0)) true 1)):=(((((Ext.refl h).push _).push _).push _).push _).push _;have gA:(((((h.push (.cells (cellsOf (sv s)) true 1)).push (.cells (cellsOf (.func (.func gf) #[] #[cap])) true 1)).push (.cells (aL 8 (.int .u64 0)) true 1)).push (.cells [.bool false] true 1)).push (.cells (aL 8 (.int .u64 0)) true 1)).get h.next=some (.cells (us s) true 1):=YG
 have gB:(((((h.push (.cells (cellsOf (sv s)) true 1)).push (.cells (cellsOf (.func (.func gf) #[] #[cap])) true 1)).push (.cells (aL 8 (.int .u64 0)) true 1)).push (.cells [.bool false] true 1)).push (.cells (aL 8 (.int .u64 0)) true 1)).get (h.next+1)=some (.cells [.func (.func gf) #[] #[cap]] true 1):=YG;have gC:(((((h.push (.cells (cellsOf (sv s)) true 1)).push (.cells (cellsOf (.func (.func gf) #[] #[cap])) true 1)).push (.cells (aL 8 (.int .u64 0)) true 1)).push (.cells [.bool false] true 1)).push (.cells (aL 8 (.int .u64 0)) true 1)).get (h.next+2)=some (.cells (us s0) true 1):=YG;have gD:(((((h.push (.cells (cellsOf (sv s)) true 1)).push (.cells (cellsOf (.func (.func gf) #[] #[cap])) true 1)).push (.cells (aL 8 (.int .u64 0)) true 1)).push (.cells [.bool false] true 1)).push (.cells (aL 8 (.int .u64 0)) true 1)).get (h.next+3)=some (.cells [.bool false] true 1):=YG;have gE:(((((h.push (.cells (cellsOf (sv s)) true 1)).push (.cells (cellsOf (.func (.func gf) #[] #[cap])) true 1)).push (.cells (aL 8 (.int .u64 0)) true 1)).push (.cells [.bool false] true 1)).push (.cells (aL 8 (.int .u64 0)) true 1)).get (h.next+4)=some (.cells (us s0) true 1):=YG;have n0:(((((h.push (.cells (cellsOf (sv s)) true 1)).push (.cells (cellsOf (.func (.func gf) #[] #[cap])) true 1)).push (.cells (aL 8 (.int .u64 0)) true 1)).push (.cells [.bool false] true 1)).push (.cells (aL 8 (.int .u64 0)) true 1)).next=h.next+5:=rfl
 refine Y9 ?_;generalize(((((h.push (.cells (cellsOf (sv s)) true 1)).push (.cells (cellsOf (.func (.func gf) #[] #[cap])) true 1)).push (.cells (aL 8 (.int .u64 0)) true 1)).push (.cells [.bool false] true 1)).push (.cells (aL 8 (.int .u64 0)) true 1))=H at*;have W:=x0.wf hr.wf;have hL:=x0.log.trans hr.log;have C:=zV F.cp (h:={H with log:=[]}) (.of W) hs;refine Y4 ?_;refine FW.al C (λv h' m q=>q) ?_;rintro _ H1 x1 ⟨q,rfl,gq,q2,q3⟩;clear C;have q2:H.next<=q:=q2
 have ey1':=x0.trans x1;have W1:=ey1'.wf hr.wf;have hL1:=ey1'.log.trans hr.log;have n1:=x1.next
 have gB1:=(x1.old _ (by omega)).trans gB;have gC1:=(x1.old _ (by omega)).trans gC;have gD1:=(x1.old _ (by omega)).trans gD;have gE1:=(x1.old _ (by omega)).trans gE;have hg1:Tab H1:=hg.ext ey1' h2;clear gA gB gC gD gE;refine Y2 ?_;refine wZ (lo:=h.next+4) (P:=PXo H1.next (h.next+4) H1 (.loop [(3, .pointer (some ⟨h.next+1,0,none⟩)),(4, .pointer (some ⟨h.next+2,0,none⟩)),(5, .pointer (some ⟨h.next+3,0,none⟩)),(6, .pointer (some ⟨h.next+4,0,none⟩)),(10,fnC q)] [11] rN rQ 0 .normal) (λd=>us (jX f d)) (aW s 512)) (S:=λ_=>False) rfl (by rfl) (by rw[F.cp.f265];rfl) (by omega) (by omega) hL1 W1 ?_ (λH p=>⟨_,_,_,_,p.loop⟩) (λH p=>p.elim) ?_ (λ_ _ _ _ _ _ _ p=>p.elim)
 ·have Y:FJ T (h.next+4) (H1.next+1) H1.next ceV (aW s 512) (λd H'=>PXo H1.next (h.next+4) H1 (.loop [(3, .pointer (some ⟨h.next+1,0,none⟩)),(4, .pointer (some ⟨h.next+2,0,none⟩)),(5, .pointer (some ⟨h.next+3,0,none⟩)),(6, .pointer (some ⟨h.next+4,0,none⟩)),(10,fnC q)] [11] rN rQ 0 .normal) (λd=>us (jX f d)) d H'∧IsS (jX f d)) (λ_=>False):=by
   refine⟨λdone x Hh hx hrH hN hP=> ?_,λdone Ha Hb p n e=>⟨PXo.fF (by omega) done Ha Hb p.1 n e,p.2⟩,λ_ _ h=>h,λ_ h=>h.elim⟩;obtain⟨hP,hd⟩:=hP;have hxG:=jt hx
   refine FW.mono' (Ej F hrH (lo:=h.next+4) (N:=H1.next+1) (S:=λ_=>False) hd (d:=f x) (hin x hxG) (Nat.le_refl _) (by omega) (by omega) (by omega) hP.loop ((hP.old _ (by omega) (by omega)).trans gB1)
    (λH' w e=>hto H' w (λz hz=>(e z (by omega)).trans ((hP.old z (by omega) (by omega)).trans (ey1'.old z hz))) x hxG) hP.val) ?_
   rintro r' H' ⟨r1,r2⟩;refine⟨r1,r2.imp (λ⟨e,g,o,_⟩=>⟨e,⟨λz hz hne=>(o z (by omega) hne).trans (hP.old z hz hne),(o _ (by omega) (by omega)).trans hP.loop,?_⟩,?_⟩) id⟩
   ·rw[oO];exact g
   ·rw[oO];exact hd.kW (hin x hxG)
  have G:=vR F.cp (.of (W1.push (.loop [(3, .pointer (some ⟨h.next+1,0,none⟩)),(4, .pointer (some ⟨h.next+2,0,none⟩)),(5, .pointer (some ⟨h.next+3,0,none⟩)),(6, .pointer (some ⟨h.next+4,0,none⟩)),(10,fnC q)] [11] rN rQ 0 .normal))) (q0:=q) (l:=H1.next) (N:=H1.next+1) (lo:=h.next+4) hs (Nat.le_refl _) (by show h.next+4<=H1.next+1;omega) (Nat.lt_succ_self _) Y ((z4 (by omega)).trans gq) (λd H' hP=>(hP.1.old 0 (by omega) (by omega)).trans hg1)
   ⟨⟨λz hz _=>z4 hz,z3 _ _,(z4 (by omega)).trans gE1⟩,om⟩
  exact CW.mono G λr h' ⟨a,v,b,c⟩=>⟨a,v,b,c.imp (λp=>p.1) id⟩
 intro h4 h5 k1 k2 k3 k4 k5 hP;have D:=(k5 (h.next+4) (by omega)).trans hP.val;have D2:=(k5 (h.next+2) (by omega)).trans ((hP.old _ (by omega) (by omega)).trans gC1);have D3:=(k5 (h.next+3) (by omega)).trans ((hP.old _ (by omega) (by omega)).trans gD1);unfold kT at*;generalize jX f (aW s 512)=z at*;have ck:=bR hms.len;have ckl:=aR hms.len;have cko:=cg z;have cks:(us z).length=8:=by rw[aI,hms.len]
 have ck0:=cg s0;have ck0l:(us s0).length=8:=rfl;refine Y4 ?_;refine aA (bh (by exact rfl) (by exact rfl) (by assumption) (by assumption) (by assumption) (by exact cg _)) ?_;refine aA (dZ (by exact rfl) (by exact rfl) (by first|(simp(disch:=first|omega|(simp only[z1,z2];omega))only[z3,z4,z5,z6,z7,z1,z2,gq,gB1,gC1,gD1,gE1,D2,D3,D];exact rfl)|fail) (by exact rfl) (by exact rfl)) ?_;refine y3 ?_;refine vw ?_;refine ak ?_ (bH (own:=true) (s:=1) (l:=us z) rfl ?_ ck ckl (I8 (own:=true) (s:=1) (ws:=[.bool true]) (v:= .bool true) rfl ?_ rfl rfl)) rfl
 ·rw[Heap.aq (by show h.next<=h.next+3;omega),Heap.aq (by show h.next<=h.next+2;omega)];exact k1
 ·simp(disch:=first|omega|(simp only[z1,z2];omega))only[z3,z4,z5,z6,z7,z1,z2,gq,gB1,gC1,gD1,gE1,D2,D3,D]
 ·simp(disch:=first|omega|(simp only[z1,z2];omega))only[z3,z4,z5,z6,z7,z1,z2,gq,gB1,gC1,gD1,gE1,D2,D3,D];exact rfl
theorem LK(F:zM T){h:Heap}(hr:Rdy h){qt t:Nat}(ht:t<24)(g:h.get qt=some (.cells [.int .i64 (t:Nat)] true 1)){c:Ce}(hc:inG c=true):Pu T 144 [ceV c, .pointer (some ⟨qt,0,none⟩)] h (ceV (gH t c)):=by
 refine .of F.cp.p F.f262 hr rfl ?_;have kq:=hr.wf.fU g;have W:WF ((h.push (.cells (cellsOf (ceV c)) true 1)).push (.cells [I.O,I.O,I.O] true 1)):=(hr.wf.push _).push _;have C:=Fo F.tu (.of W) (jK.1 hc) ht;have ck:bB 3 (bA 0 (ceL (gH t c)))=ceL (gH t c):=rfl;generalize gH t c=d at*;refine Y8 ?_;refine FW.pu C ?_;refine Y3 ?_;refine ak ?_ (bH (own:=true) (s:=1) rfl ?_ ck rfl rfl) rfl
 ·rw[Heap.aq (by show h.next<=h.next+1;omega)];exact hr.log
 ·exact YG
def ek(s:List Nat)(t:Nat):List Nat:=kT (gH t) s
theorem oT{t:Nat}(c:Ce)(h:inG c=true):inG (gH t c)=true:=jK.2 ((jK.1 h).T3 t)
theorem rq(s:List Nat)(t:Nat):IsS (ek s t):=Dp oT
theorem LL(F:zM T){h:Heap}(hr:Rdy h)(hg:Tab h)(h2:0<h.next){s:List Nat}(hs:IsS s){t:Nat}(ht:t<24):Pu T 125 [sv s, .int .i64 (t:Nat)] h (sv (ek s t)):=by
 refine .of F.cp.p F.f211 hr (jk _) ?_;have k8:=aR hs.len;have k9:=bR hs.len;have x0:Ext h (((h.push (.cells (cellsOf (sv s)) true 1)).push (.cells (cellsOf (Value.int .i64 (t:Nat))) true 1)).push (.cells (aL 8 (.int .u64 0)) true 1)):=(((Ext.refl h).push _).push _).push _;have gA:(((h.push (.cells (cellsOf (sv s)) true 1)).push (.cells (cellsOf (Value.int .i64 (t:Nat))) true 1)).push (.cells (aL 8 (.int .u64 0)) true 1)).get h.next=some (.cells (us s) true 1):=YG
 have gB:(((h.push (.cells (cellsOf (sv s)) true 1)).push (.cells (cellsOf (Value.int .i64 (t:Nat))) true 1)).push (.cells (aL 8 (.int .u64 0)) true 1)).get (h.next+1)=some (.cells [.int .i64 (t:Nat)] true 1):=YG;have gC:(((h.push (.cells (cellsOf (sv s)) true 1)).push (.cells (cellsOf (Value.int .i64 (t:Nat))) true 1)).push (.cells (aL 8 (.int .u64 0)) true 1)).get (h.next+2)=some (.cells (us s0) true 1):=YG;have n0:(((h.push (.cells (cellsOf (sv s)) true 1)).push (.cells (cellsOf (Value.int .i64 (t:Nat))) true 1)).push (.cells (aL 8 (.int .u64 0)) true 1)).next=h.next+3:=rfl
 refine Y5 ?_;generalize(((h.push (.cells (cellsOf (sv s)) true 1)).push (.cells (cellsOf (Value.int .i64 (t:Nat))) true 1)).push (.cells (aL 8 (.int .u64 0)) true 1))=H at*;have W:=x0.wf hr.wf;have hL:=x0.log.trans hr.log
 have C:=Ek F (h:={H with log:=[]}) (.of W) (show Tab H from hg.ext x0 h2) (by show 0<H.next;omega) hs (gf:=144) (cap:= .pointer (some ⟨h.next+1,0,none⟩)) (f:=gH t) oT
  (λH' w e c hc=>LK F (.of w) ht ((e (h.next+1) (by show h.next+1<H.next;omega)).trans gB) hc)
 have hms:=rq s t;unfold ek at*;generalize kT (gH t) s=z at*;have ck:=bR hms.len;have ckl:=aR hms.len;have cko:=cg z;have cks:(us z).length=8:=by rw[aI,hms.len]
 have ck0:=cg s0;have ck0l:(us s0).length=8:=rfl;refine Y4 ?_;refine FW.pu C ?_;clear C;refine Y4 ?_;refine aA (bh (by exact rfl) (by exact rfl) YG (by assumption) (by assumption) (by exact cg _)) ?_;refine Y3 ?_;refine aA (cQ (by exact rfl) YG (by assumption) (by assumption)) ?_;refine aA (bh (by exact rfl) (by exact rfl) YG (by assumption) (by assumption) (by exact cg _)) ?_;refine Y2 ?_;refine ak ?_ (bH (own:=true) (s:=1) (l:=us z) rfl ?_ ck ckl rfl) rfl
 ·rw[Heap.aq (by show h.next<=h.next+2;omega),Heap.aq (by first|omega|(show h.next<=H.next;omega))];exact hL
 ·exact YG
def shP(p:Nat)(k:Int):Nat:=if 0<=k then Nat.mod (Nat.shiftLeft p k.toNat) 18446744073709551616 else Nat.shiftRight p (-k).toNat
theorem OP{p:Nat}{k:Int}(hp:p<U64):shP p k<U64:=by
 unfold shP;split
 ·exact Nat.mod_lt _ (by decide)
 ·exact Nat.lt_of_le_of_lt (Nat.shiftRight_le _ _) hp
def jS(s:List Nat)(a:Nat)(z k:Int):Nat->List Nat
 |0=>s0
 |n+1=>(jS s a z k n).set (((a+n:Nat):Int)+z).toNat (shP (s.getD (a+n) 0) k)
theorem nS{s:List Nat}(hs:IsS s)(a:Nat)(z k:Int):∀n,IsS (jS s a z k n)
 |0=>om
 |n+1=>by
  have ih:=nS hs a z k n;refine⟨by unfold jS;rw[List.length_set];exact ih.len,λx hx=> ?_⟩;unfold jS at hx;rcases List.mem_or_eq_of_mem_set hx with h|h
  ·exact ih.lt x h
  ·rw[h];exact OP (hs.jJ _)
def j6(s:List Nat)(b:Bx)(x y z:Int):List Nat:=jS s b.lo.z.toNat z (8*y+x) (b.hi.z-b.lo.z+1).toNat
theorem QH{p n:Nat}(hn:n<64):ah .shl (.int .u64 (p:Nat)) (.int .i64 (n:Nat))=some (.int .u64 ((Nat.mod (Nat.shiftLeft p n) 18446744073709551616:Nat):Int)):=by
 have e1:((n:Nat):Int)=Int.ofNat n:=rfl;have e2:((p:Nat):Int)=Int.ofNat p:=rfl;rw[e1,e2];have:ah .shl (.int .u64 (Int.ofNat p)) (.int .i64 (Int.ofNat n))=some (.int .u64 (.ofNat (Nat.mod (Nat.shiftLeft p (Nat.min n 64)) 18446744073709551616))):=rfl;rw[this,show Nat.min n 64=n from Nat.min_eq_left (by omega)];rfl
def psL(s:List Nat)(b:Bx):List Value:=us s++bxL b
def psV(s:List Nat)(b:Bx):Value:= .agg (psL s b).toArray
theorem Dw{s:List Nat}{b:Bx}(hs:IsS s)(j:Nat):aT (psL s b) (8+j)=aT (bxL b) j:=by
 rw[cA,cA];unfold psL;rw[List.getElem?_append_right (by rw[aI,hs.len];omega),aI,hs.len,Nat.add_sub_cancel_left]
theorem Ot{s:List Nat}{b:Bx}(hs:IsS s){i:Nat}(hi:i<8):aT (psL s b) (0+0+i*1)=some (.int .u64 ((s.getD i 0:Nat):Int)):=by
 rw[cA,show 0+0+i*1=i by omega];unfold psL;rw[List.getElem?_append_left (by rw[aI,hs.len];omega)];unfold us;rw[List.getElem?_map,jI (by rw[hs.len];exact hi)];rfl
structure Mz (T:Nat->Option af):Prop where
 p:aV T
 f212:T 126=some f212
theorem Ei(F:Mz T){h:Heap}(hr:Rdy h){s:List Nat}(hs:IsS s){b:Bx}{x y z:Int}(hx: -7<=x/\x<=7)(hy: -7<=y/\y<=7)(hz: -7<=z/\z<=7)(hlo:0<=b.lo.z/\b.lo.z<=7)(hhi:0<=b.hi.z/\b.hi.z<=7)(hl:0<=b.lo.z+z)(hh:b.hi.z+z<=7):
 Pu T 126 [psV s b, .int .i64 x, .int .i64 y, .int .i64 z] h (sv (j6 s b x y z)):=by
 refine .of F.p F.f212 hr (jk _) ?_;unfold j6;have hb:bxL b=[.int .i64 b.lo.x, .int .i64 b.lo.y, .int .i64 b.lo.z, .int .i64 b.hi.x, .int .i64 b.hi.y, .int .i64 b.hi.z]:=rfl;have eA:aT (psL s b) (0+8+0+2)=some (.int .i64 b.lo.z):=by rw[show 0+8+0+2=8+2 by omega,Dw hs];rfl
 have eB:aT (psL s b) (0+8+3+2)=some (.int .i64 b.hi.z):=by rw[show 0+8+3+2=8+5 by omega,Dw hs];rfl
 obtain⟨a,ha⟩:=Int.eq_ofNat_of_zero_le hlo.1;obtain⟨c,hc⟩:=Int.eq_ofNat_of_zero_le hhi.1;rw[ha]at eA hlo hl;rw[hc]at eB hhi hh;have eP:=λi hi=>Ot (s:=s) (b:=b) hs (i:=i) hi;have hcells:cellsOf (psV s b)=psL s b:=by show(psL s b).toArray.toList=_;simp
 have x0:Ext h (((h.push (.cells (cellsOf (psV s b)) true 1)).push (.cells (aL 8 (.int .u64 0)) true 1)).push (.cells (aL 8 (.int .u64 0)) true 1)):=(((Ext.refl h).push _).push _).push _;have gA:(((h.push (.cells (cellsOf (psV s b)) true 1)).push (.cells (aL 8 (.int .u64 0)) true 1)).push (.cells (aL 8 (.int .u64 0)) true 1)).get h.next=some (.cells (psL s b) true 1):=by rw[hcells];(simp(disch:=first|omega|(simp only[z1,z2];omega))only[z3,z4,z5,z6,z7,z1,z2];done)
 have gB:(((h.push (.cells (cellsOf (psV s b)) true 1)).push (.cells (aL 8 (.int .u64 0)) true 1)).push (.cells (aL 8 (.int .u64 0)) true 1)).get (h.next+1)=some (.cells (us s0) true 1):=YG;have gC:(((h.push (.cells (cellsOf (psV s b)) true 1)).push (.cells (aL 8 (.int .u64 0)) true 1)).push (.cells (aL 8 (.int .u64 0)) true 1)).get (h.next+2)=some (.cells (us s0) true 1):=YG;have n0:(((h.push (.cells (cellsOf (psV s b)) true 1)).push (.cells (aL 8 (.int .u64 0)) true 1)).push (.cells (aL 8 (.int .u64 0)) true 1)).next=h.next+3:=rfl
 refine Y7 ?_;generalize(((h.push (.cells (cellsOf (psV s b)) true 1)).push (.cells (aL 8 (.int .u64 0)) true 1)).push (.cells (aL 8 (.int .u64 0)) true 1))=H at*;have hL:=x0.log.trans hr.log;rw[ha,hc];have m1:ah .mul (.int .i64 8) (.int .i64 y)=some (.int .i64 (8*y)):=Dn (by omega) (by omega);have m2:ah .add (.int .i64 (8*y)) (.int .i64 x)=some (.int .i64 (8*y+x)):=iD (bJ (by omega) (by omega));refine Y9 ?_
 refine bW (λm e ds h'=>∃n:Nat,(a+n<=c+1∨n=0)/\8-n=m/\e=[(1, .int .i64 x),(2, .int .i64 y),(3, .int .i64 z),(4, .pointer (some ⟨h.next,0,none⟩)),(8, .pointer (some ⟨h.next+1,0,none⟩)),(9, .pointer (some ⟨h.next+2,0,none⟩)),(10, .int .i64 ((a+n:Nat):Int))]/\ds=[]/\Ext h h'∧h'.get h.next=some (.cells (psL s b) true 1)/\h'.get (h.next+1)=some (.cells (us s0) true 1)/\h'.get (h.next+2)=some (.cells (us (jS s a z (8*y+x) n)) true 1))
  ⟨0, .inr rfl,rfl,rfl,rfl,x0,gA,gB,gC⟩ ?_
 rintro m e ds h' ⟨n,hn,rfl,rfl,rfl,xx,g1,g2,g3⟩;have hso:=nS hs a z (8*y+x) n;by_cases hlt:a+n<=c
 ·have m3:ah .leq (.int .i64 ((a+n:Nat):Int)) (.int .i64 (c:Nat))=some (.bool true):=kQ (by omega);obtain⟨w,hw⟩:=Int.eq_ofNat_of_zero_le (show 0<=((a+n:Nat):Int)+z by omega);have hw8:w<8:=by omega
  have m4:ah .add (.int .i64 ((a+n:Nat):Int)) (.int .i64 z)=some (.int .i64 ((w:Nat):Int)):=iD (by rw[bJ (by omega) (by omega)];omega);have e1:=eP (a+n) (by omega);have hstep:jS s a z (8*y+x) (n+1)=(jS s a z (8*y+x) n).set w (shP (s.getD (a+n) 0) (8*y+x)):=by
   rw[jS,hw];rfl
  have hnx:=xx.next
  by_cases hk:0<=8*y+x
  ·obtain⟨k,hk2⟩:=Int.eq_ofNat_of_zero_le hk;have hk3:k<64:=by omega
   rw[hk2]at m2 hstep hso g3⊢;have m5:ah .geq (.int .i64 ((k:Nat):Int)) (.int .i64 0)=some (.bool true):=ye (by omega);have m6:=QH (p:=s.getD (a+n) 0) hk3;have hsh:shP (s.getD (a+n) 0) ((k:Nat):Int)=Nat.mod (Nat.shiftLeft (s.getD (a+n) 0) k) 18446744073709551616:=by
    unfold shP;rw[if_pos (by omega)];rfl
   rw[←hsh]at m6;have kw:=zC (o:=jS s a z ((k:Nat):Int) n) (z:=w) (v:=shP (s.getD (a+n) 0) ((k:Nat):Int)) (by rw[hso.len];exact hw8);rw[←hstep]at kw;have kc:(Nat.beq (bK (cellsOf (.int .u64 ((shP (s.getD (a+n) 0) ((k:Nat):Int):Nat):Int)))) 1&&Nat.ble (0+w*1+1) (bK (us (jS s a z ((k:Nat):Int) n)))&&cK (cellsOf (.int .u64 ((shP (s.getD (a+n) 0) ((k:Nat):Int):Nat):Int))))=true:=by
    rw[bM (us _),aI,hso.len,eT (by omega)];rfl
   have hn8:n<8:=by omega
   refine Y37 ?_;refine aA (dZ (by exact rfl) (by exact rfl) g3 kc kw) ?_;refine aO ?_;refine Y8 ?_;exact⟨8-(n+1),by omega,n+1, .inl (by omega),rfl,rfl,rfl,⟨xx.next,(Heap.aq (by omega)).trans xx.log,λb hb=>(z5 (by omega)).trans (xx.old b hb),λw=>(xx.wf w).as (AS.wr h.next _ _ _)⟩,(z5 (by omega)).trans g1,(z5 (by omega)).trans g2,Heap.aB g3⟩
  ·obtain⟨k,hk2⟩:=Int.eq_ofNat_of_zero_le (show 0<= -(8*y+x)by omega);have hk3:k<64:=by omega
   have m5:ah .geq (.int .i64 (8*y+x)) (.int .i64 0)=some (.bool false):=BM (by omega);have m7:ry .neg (.int .i64 (8*y+x))=some (.int .i64 ((k:Nat):Int)):=by
    show some (Value.int .i64 (fG .i64 (0-(8*y+x))))=_;rw[bJ (by omega) (by omega)];congr 2;omega
   have m6:ah .shr (.int .u64 ((s.getD (a+n) 0:Nat):Int)) (.int .i64 ((k:Nat):Int))=_:=sW (a:=s.getD (a+n) 0) (n:=k) (by omega);have hsh:shP (s.getD (a+n) 0) (8*y+x)=Nat.shiftRight (s.getD (a+n) 0) k:=by
    unfold shP;rw[if_neg hk,show(-(8*y+x)).toNat=k by omega]
   rw[←hsh]at m6;have kw:=zC (o:=jS s a z (8*y+x) n) (z:=w) (v:=shP (s.getD (a+n) 0) (8*y+x)) (by rw[hso.len];exact hw8);rw[←hstep]at kw;have kc:(Nat.beq (bK (cellsOf (.int .u64 ((shP (s.getD (a+n) 0) (8*y+x):Nat):Int)))) 1&&Nat.ble (0+w*1+1) (bK (us (jS s a z (8*y+x) n)))&&cK (cellsOf (.int .u64 ((shP (s.getD (a+n) 0) (8*y+x):Nat):Int))))=true:=by
    rw[bM (us _),aI,hso.len,eT (by omega)];rfl
   have hn8:n<8:=by omega
   refine Y35 ?_;refine aA (FT (by exact rfl) (by assumption)) ?_;refine Y2 ?_;refine aA (dZ (by exact rfl) (by exact rfl) g3 kc kw) ?_;refine aO ?_;refine Y8 ?_;exact⟨8-(n+1),by omega,n+1, .inl (by omega),rfl,rfl,rfl,⟨xx.next,(Heap.aq (by omega)).trans xx.log,λb hb=>(z5 (by omega)).trans (xx.old b hb),λw=>(xx.wf w).as (AS.wr h.next _ _ _)⟩,(z5 (by omega)).trans g1,(z5 (by omega)).trans g2,Heap.aB g3⟩
 ·have m3:ah .leq (.int .i64 ((a+n:Nat):Int)) (.int .i64 (c:Nat))=some (.bool false):=lR (by omega);rw[show((a:Nat):Int).toNat=a by omega,show(((c:Nat):Int)-((a:Nat):Int)+1).toNat=n by omega];generalize jS s a z (8*y+x) n=o at*;have ck:=bR hso.len;have ckl:=aR hso.len;have cko:=cg o;have cks:(us o).length=8:=by rw[aI,hso.len]
  have ck0l:(us s0).length=8:=rfl;refine Y17 ?_;refine aA (bh (by exact rfl) (by exact rfl) (by assumption) (by assumption) (by assumption) (by exact cg _)) ?_;refine Y2 ?_;refine ak ?_ (bH (own:=true) (s:=1) (l:=us o) rfl ?_ ck ckl rfl) rfl
  ·rw[Heap.aq (by show h.next<=h.next+1;omega)];exact xx.log.trans hr.log
  ·exact YG
structure FB (T:Nat->Option af):Prop where
 p:aV T
 f188:T 79=some f188
 f254:T 127=some f254
def dW(s:List Nat):Nat:=(aW s 512).length
theorem nL(F:FB T){h:Heap}(hr:Rdy h){s:List Nat}(hs:IsS s):Pu T 79 [sv s] h (.int .i64 ((dW s:Nat):Int)):=by
 refine .of F.p F.f188 hr rfl ?_;have k8:=aR hs.len;have k9:=bR hs.len;have W:=hr.wf.push (.cells (cellsOf (sv s)) true 1);have hl5:=gW s 512;unfold dW;refine Y9 ?_;refine aA (cQ (by exact rfl) YG (by assumption) (by assumption)) ?_;refine Y3 ?_
 refine bW (λm e ds h'=>∃z:Nat,z<=8/\8-z=m/\e=[(3, .int .i64 (((aW s (z*64)).length:Nat):Int)),(6,sv s),(7, .int .i64 (z:Nat))]/\ds=[]/\h.push (.cells (cellsOf (sv s)) true 1)=h')
  ⟨0,by omega,rfl,rfl,rfl,rfl⟩ ?_
 rintro m e ds h' ⟨z,hz8,rfl,rfl,rfl,rfl⟩;by_cases hz:z<8
 ·have e1:aT (us s).toArray.toList (z*1)=some (.int .u64 ((s.getD z 0:Nat):Int)):=by
   rw[List.toList_toArray,Nat.mul_one,cA];unfold us;rw[List.getElem?_map,jI (by rw[hs.len];exact hz)];rfl
  have C:=KX F.p F.f254 (.of W) (hs.jJ z);have hplane:=lN s hz;have hle:=gW s (z*64);have hpl:(pS s z).length=(bitsOf (s.getD z 0)).length:=by unfold pS;rw[List.length_map]
  have hb64:(bitsOf (s.getD z 0)).length<=64:=by
   unfold bitsOf;exact Nat.le_trans (List.length_filter_le ..) (by simp)
  have m1:ah .add (.int .i64 (((aW s (z*64)).length:Nat):Int)) (.int .i64 (((bitsOf (s.getD z 0)).length:Nat):Int))=some (.int .i64 (((aW s ((z+1)*64)).length:Nat):Int)):=by
   rw[hplane,List.length_append,hpl];exact iD (by rw[bJ (by omega) (by omega)];omega)
  generalize(bitsOf (s.getD z 0)).length=c3 at*;refine Y10 ?_;refine aA (FM (by exact rfl) (by exact rfl) (by omega) (by assumption)) ?_;refine Y6 ?_;refine FW.pu C ?_;clear C;refine Y2 ?_;refine aO ?_;refine Y7 ?_;exact⟨8-(z+1),by omega,z+1,by omega,rfl,rfl,rfl,rfl⟩
 ·obtain rfl:z=8:=by omega
  rw[show 8*64=512 from rfl];generalize(aW s 512).length=c at*;refine Y15 ?_;exact ak hr.log rfl rfl
structure Fi where
 t:Nat
 x:Int
 y:Int
 z:Int
 s:List Nat
def moV(t x y z:Int):Value:= .agg #[.int .i64 t, .int .i64 x, .int .i64 y, .int .i64 z]
def fiV(f:Fi):List Value:=[moV f.t f.x f.y f.z,sv f.s]
def zrN(lo:Int)(n:Nat):List Int:=(List.range n).map λi=>lo+(i:Nat)
theorem rH(lo:Int)(n:Nat):zrN lo (n+1)=zrN lo n++[lo+(n:Nat)]:=by unfold zrN;rw[List.range_succ,List.map_append];rfl
def zr(lo hi:Int):List Int:=zrN lo (hi-lo+1).toNat
def Bf(a p:List Nat)(bp:Bx)(t:Nat)(z y x:Int):List Fi:=if sIn (j6 p bp x y z) a then [⟨t,x,y,z,j6 p bp x y z⟩]else []
def xS(a p:List Nat)(ra bp:Bx)(t:Nat)(z y:Int):List Fi:=(zr (ra.lo.x-bp.lo.x) (ra.hi.x-bp.hi.x)).flatMap (Bf a p bp t z y)
def BC(a p:List Nat)(ra bp:Bx)(t:Nat)(z:Int):List Fi:=(zr (ra.lo.y-bp.lo.y) (ra.hi.y-bp.hi.y)).flatMap (xS a p ra bp t z)
def Nr(a p:List Nat)(ra bp:Bx)(t:Nat):List Fi:=(zr (ra.lo.z-bp.lo.z) (ra.hi.z-bp.hi.z)).flatMap (BC a p ra bp t)
def oV(a b:List Nat)(t:Nat):List Fi:=Nr a (ek b t) (dB a).1 (dB (ek b t)).1 t
def jQ(a b:List Nat):List Fi:=if a=s0∨dW a<dW b then []else(List.range 24).flatMap (oV a b)
structure Bm (b:Bx):Prop where
 lo:InB b.lo
 hi:InB b.hi
theorem Hy{a b:Int}(ha:0<=a/\a<=7)(hb:0<=b/\b<=7):0<=mi a b/\mi a b<=7:=by unfold mi;split<;>assumption
theorem HF{a b:Int}(ha:0<=a/\a<=7)(hb:0<=b/\b<=7):0<=mx a b/\mx a b<=7:=by unfold mx;split<;>assumption
theorem Bm.up{b:Bx}(h:Bm b){c:Ce}(hc:InB c):Bm (mY b c):=
 ⟨⟨Hy h.lo.x hc.x,Hy h.lo.y hc.y,Hy h.lo.z hc.z⟩,⟨HF h.hi.x hc.x,HF h.hi.y hc.y,HF h.hi.z hc.z⟩⟩
theorem Nh:∀{l:List Ce},(∀c∈l,InB c)->Bm (bxS l):=by
 intro l;have:∀(l:List Ce) (b:Bx),Bm b->(∀c∈l,InB c)->Bm (l.foldl mY b):=by
  intro l;induction l with
  |nil=>intro b hb _;exact hb
  |cons c l ih=>intro b hb hl;exact ih _ (hb.up (hl c List.mem_cons_self)) λx hx=>hl x (List.mem_cons_of_mem _ hx)
 exact λhl=>this l bx0 ⟨⟨by decide,by decide,by decide⟩,⟨by decide,by decide,by decide⟩⟩ hl
theorem oM(s:List Nat):Bm (dB s).1:=by
 unfold dB;split
 ·exact⟨⟨by decide,by decide,by decide⟩,⟨by decide,by decide,by decide⟩⟩
 ·exact Nh λc hc=>jK.1 (jt hc)
structure Mw (T:Nat->Option af):Prop where
 mp:zM T
 bd:Mr T
 li:Mz T
 co:FB T
 f35:T 39=some f35
 f121:T 73=some f121
 f209:T 123=some f209
def tn:Bx:=⟨c0,c0⟩
theorem Kp{h:Heap}{e:Env}{x:Operand}{s:List Nat}(hs:IsS s)(hx:ev h e x=some (sv s)):iO h e [.int .u64 0, .int .u64 0, .int .u64 0, .int .u64 0, .int .u64 0, .int .u64 0, .int .u64 0, .int .u64 0,I.O,I.O,I.O,I.O,I.O,I.O] [(0,8,x)]=some (psL s tn):=by
 have e1:cellsOf (sv s)=us s:=by show(us s).toArray.toList=_;simp
 have h0:psL s0 tn=[.int .u64 0, .int .u64 0, .int .u64 0, .int .u64 0, .int .u64 0, .int .u64 0, .int .u64 0, .int .u64 0,I.O,I.O,I.O,I.O,I.O,I.O]:=rfl;have e2:bZ (psL s0 tn) 0 (us s)=psL s tn:=by
  rw[gM (by rw[aI,hs.len];decide),aI,hs.len,List.take_zero];rfl
 have e3:bK (us s)=8:=by rw[bM,aI,hs.len]
 rw[←h0];have e4:(Nat.beq 8 8&&Nat.ble (0+8) (bK (psL s0 tn)))=true:=rfl;simp only[iO,hx,e1,e2,e3];rfl
theorem yQ{s:List Nat}{b:Bx}(hs:IsS s):(psL s b).length=14:=by
 unfold psL;rw[List.length_append,aI,hs.len];rfl
theorem Ld{s:List Nat}{b:Bx}(hs:IsS s):bB 14 (bA 0 (psL s b))=psL s b:=by rw[cZ,cw,List.drop_zero,List.take_of_length_le (by rw[yQ hs];omega)]
theorem ID{s:List Nat}{b:Bx}(hs:IsS s):Nat.beq (bK (psL s b)) 14=true:=by rw[bM,yQ hs];rfl
theorem IE{s:List Nat}{b:Bx}:cK (psL s b)=true:=dL (cg _) rfl
theorem QV{s:List Nat}{b:Bx}(hs:IsS s):bB 8 (bA (0+0) (psL s b))=us s:=by
 rw[cZ,cw,Nat.zero_add,List.drop_zero];unfold psL;rw[List.take_append_of_le_length (by rw[aI,hs.len];omega),List.take_of_length_le (by rw[aI,hs.len];omega)]
theorem Ou{s:List Nat}{b b':Bx}(hs:IsS s):bZ (psL s b) (0+8) (cellsOf (bxV b'))=psL s b':=by
 show bZ (psL s b) 8 (bxL b')=_;unfold psL;rw[gM (by rw[List.length_append,aI,hs.len];exact Nat.le_refl _),List.take_append_of_le_length (by rw[aI,hs.len];omega),List.take_of_length_le (by rw[aI,hs.len];omega),List.drop_of_length_le (by rw[List.length_append,aI,hs.len];exact Nat.le_refl _)];simp
theorem Oq{s:List Nat}{b:Bx}(hs:IsS s):bB 3 (bA (0+8+0) (psL s b))=ceL b.lo:=by
 rw[cZ,cw];unfold psL;rw[show 0+8+0=(us s).length by rw[aI,hs.len],List.drop_left];rfl
theorem Oo{s:List Nat}{b:Bx}(hs:IsS s):bB 3 (bA (0+8+3) (psL s b))=ceL b.hi:=by
 rw[cZ,cw];unfold psL;rw[List.drop_append,aI,hs.len,List.drop_of_length_le (by rw[aI,hs.len];omega)];rfl
structure FxK (P:List Fi->Heap->Prop) (lo:Nat) (h0:Heap) (q:Nat) (rm bp:Bx) (p:List Nat) (D:List Fi) (g:Heap):Prop where
 k:Lk lo h0 g
 pd:P D g
 nx:q+2<g.next
 g4:g.get h0.next=some (.cells (bxL rm) true 1)
 g7:g.get q=some (.cells (psL p bp) true 1)
 g8:g.get (q+1)=some (.cells (ceL bp.lo) true 1)
 g9:g.get (q+2)=some (.cells (ceL bp.hi) true 1)
theorem FxK.ext{P:List Fi->Heap->Prop}{lo:Nat}{h0:Heap}{q:Nat}{rm bp:Bx}{p:List Nat}{D:List Fi}{g g':Heap}(f:FxK P lo h0 q rm bp p D g)(x:Ext g g')(hlo:lo<=g.next)(hq:h0.next<q)(hP:P D g'):FxK P lo h0 q rm bp p D g':=by
 have h1:=x.next
 have h2:=f.nx;exact⟨f.k.trans (x.lk hlo),hP,by omega,(x.old _ (by omega)).trans f.g4,(x.old _ (by omega)).trans f.g7,(x.old _ (by omega)).trans f.g8,(x.old _ (by omega)).trans f.g9⟩
theorem FxK.step{P:List Fi->Heap->Prop}{lo N:Nat}{h0:Heap}{q:Nat}{rm bp:Bx}{p:List Nat}{D D':List Fi}{g g':Heap}(f:FxK P lo h0 q rm bp p D g)(x:Lk lo g g')(hk:∀z,N<=z->z<g.next->g'.get z=g.get z)(hq:h0.next<q)(hN:N<=h0.next)(hP:P D' g'):FxK P lo h0 q rm bp p D' g':=by
 have h1:=x.next
 have h2:=f.nx;exact⟨f.k.trans x,hP,by omega,(hk _ (by omega) (by omega)).trans f.g4,(hk _ (by omega) (by omega)).trans f.g7,(hk _ (by omega) (by omega)).trans f.g8,(hk _ (by omega) (by omega)).trans f.g9⟩
theorem qc{lo hi z:Int}{n:Nat}(h:z=lo+(n:Nat))(hz:z<=hi):z∈zr lo hi:=List.mem_map.2 ⟨n,List.mem_range.2 (by omega),h.symm⟩
theorem vA{α:Type}(lo:Int)(n:Nat)(f:Int->List α){z:Int}(h:z=lo+(n:Nat)):(zrN lo (n+1)).flatMap f=(zrN lo n).flatMap f++f z:=by
 rw[rH,List.flatMap_append,h];simp
theorem oR{lo hi:Int}{n:Nat}(h1:n=0∨lo+(n:Nat)<=hi+1)(h2:hi<lo+(n:Nat)):n=(hi-lo+1).toNat:=by omega
theorem Ks(F:Mw T){h:Heap}(hr:Rdy h){px:br}{qa qb l N lo:Nat}{a b:List Nat}(ha:IsS a)(hb:IsS b){P:List Fi->Heap->Prop}{S:Heap->Prop}(hN:N<=h.next)(hlo:lo<=h.next)(hlN:l<N)(h2N:0<N)
 (Y:J7 px T lo N l fiV (jQ a b) P S)
 (ga:∀d H,P d H->H.get qa=some (.cells (us a) true 1))(gb:∀d H,P d H->H.get qb=some (.cells (us b) true 1))(htab:∀d H,P d H->Tab H)(h0:P [] h):
 GrX T 123 [.func (.yield l) #[] #[], .pointer (some ⟨qa,0,none⟩), .pointer (some ⟨qb,0,none⟩)] h lo (P (jQ a b)) S:=by
 have hp:=F.li.p;have ka8:=aR ha.len;have ka9:=bR ha.len;have kb8:=aR hb.len;have kb9:=bR hb.len;have hlb:l<h.next:=by omega
 refine GrX.ofM (l:=l) hp F.f209 hlo hlb (λh1 h2 hn he q=>Y.fF _ _ _ q (Nat.le_trans hN hn) λx hx=>he x (by omega)) Y.wO ?_;have C0:=vP F.bd (h:={h with log:=[]}) (.of hr.wf) (show Tab h from htab _ _ h0) (by show 0<h.next;omega) ha;have gA:=ga _ _ h0;unfold Gh at C0;have hsome:(dB a).2= !decide (a=s0):=by
  unfold dB;by_cases he:a=s0
  ·rw[if_pos he,decide_eq_true he];rfl
  ·rw[if_neg he,decide_eq_false he];rfl
 have hrm:=oM a;have hft:∀t,oV a b t=Nr a (ek b t) (dB a).1 (dB (ek b t)).1 t:=λ_=>rfl;rw[hsome]at C0;generalize(dB a).1=rm at*;refine aX (E0:=[(0, .func (.yield l) #[] #[]),(1, .pointer (some ⟨qa,0,none⟩)),(2, .pointer (some ⟨qb,0,none⟩)),(4, .pointer (some ⟨h.next,0,none⟩)),(5, .bool (!decide (a=s0)))]) (P:=λh'=>Ext h h'∧h'.next=h.next+1/\h'.get h.next=some (.cells (bxL rm) true 1)) ?_ ?_
 ·refine Y3 ?_;refine FW.pu C0 ?_;refine Y6 ?_;refine aO ?_;refine y1 ?_;exact⟨rfl,rfl,rfl,dI (by omega) _ _,rfl,ef _ _⟩
 clear C0;rintro H1 ⟨x1,n1,q1⟩;have W1:=x1.wf hr.wf;have hL1:=x1.log.trans hr.log;have hk1:Lk lo h H1:=⟨x1.next,λhh=>by rw[hL1];exact fQ.nil _,λz hz=>x1.old z (by omega),x1.wf⟩;have hP1:P [] H1:=Y.fF _ _ _ h0 (by omega) λx hx=>x1.old x (by omega);have gA1:=ga _ _ hP1;have gB1:=gb _ _ hP1;clear gA;by_cases he:a=s0
 ·have hf:jQ a b=[]:=if_pos (.inl he);rw[hf,decide_eq_true he];refine Y18 ?_;exact⟨⟨.inr rfl,rfl,hk1.log (by rw[hr.log];exact fQ.nil _),⟨_,rfl⟩, .inl hP1⟩⟩
 rw[decide_eq_false he];have C1:=nL F.co (h:={H1 with log:=[]}) (.of W1) hb;have C2:=nL F.co (h:={H1 with log:=[]}) (.of W1) ha;by_cases hcn:dW a<dW b
 ·have hf:jQ a b=[]:=if_pos (.inr hcn);rw[hf];have m1:ah .gtr (.int .i64 ((dW b:Nat):Int)) (.int .i64 ((dW a:Nat):Int))=some (.bool true):=kP (by omega);refine Y9 ?_;refine FW.puD C1 (by apply aM rfl (aG rfl (cQ (by exact rfl) (by assumption) (by assumption) (by assumption)) (by exact wS _)) rfl;(repeat apply aK rfl);exact bV) ?_;skip;refine qC ?_;refine FW.puD C2 (by apply aK rfl;exact bV) ?_;refine Y8 ?_;exact⟨⟨.inr rfl,rfl,hk1.log (by rw[hr.log];exact fQ.nil _),⟨_,rfl⟩, .inl hP1⟩⟩
 have hf:jQ a b=(List.range 24).flatMap (oV a b):=if_neg (λq=>q.elim he hcn);have m1:ah .gtr (.int .i64 ((dW b:Nat):Int)) (.int .i64 ((dW a:Nat):Int))=some (.bool false):=jB (by omega);refine Y9 ?_;refine FW.puD C1 (by apply aM rfl (aG rfl (cQ (by exact rfl) (by assumption) (by assumption) (by assumption)) (by exact wS _)) rfl;(repeat apply aK rfl);exact bV) ?_;skip;refine qC ?_;refine FW.puD C2 (by apply aK rfl;exact bV) ?_;clear C1 C2;refine Y12 ?_
 refine bW (λk e ds h'=>∃t:Nat,t<=24/\24-t=k/\e=[(0, .func (.yield l) #[] #[]),(1, .pointer (some ⟨qa,0,none⟩)),(2, .pointer (some ⟨qb,0,none⟩)),(4, .pointer (some ⟨h.next,0,none⟩)),(28, .int .i64 (t:Nat))]/\ds=[]/\Lk lo h h'∧P ((List.range t).flatMap (oV a b)) h'∧h.next<h'.next/\h'.get h.next=some (.cells (bxL rm) true 1))
  ⟨0,Nat.zero_le _,rfl,rfl,rfl,hk1,hP1,by omega,q1⟩ ?_
 clear hP1 gA1 gB1 q1 hk1 W1 hL1 x1 n1;rintro k e ds G ⟨t,ht24,rfl,rfl,rfl,hk,hP,hnx,g4⟩;have WG:=hk.wf hr.wf;by_cases ht:t<24
 ·have hps:=rq b t;have hbp:=oM (ek b t);have D1:=LL F.mp (h:={G with log:=[]}) (.of WG) (show Tab G from htab _ _ hP) (by show 0<G.next;omega) hb ht;have gB:=gb _ _ hP;have hT:(List.range (t+1)).flatMap (oV a b)=(List.range t).flatMap (oV a b)++oV a b t:=by rw[List.range_succ,List.flatMap_append];simp
  have hmem:∀f∈oV a b t,f∈jQ a b:=λf hf'=>by
   rw[hf];exact List.mem_flatMap.2 ⟨t,List.mem_range.2 ht,hf'⟩
  rw[hft t]at hT hmem;generalize(List.range t).flatMap (oV a b)=D at*;generalize hbb:dB (ek b t)=bb at*;generalize ek b t=p at*;obtain⟨bp,some'⟩:=bb;dsimp only at hbp hT hmem;have kp8:=aR hps.len;have lo14:=yQ (b:=tn) hps;have lo14o:=IE (s:=p) (b:=tn);refine Y13 ?_;refine aX (E0:=[(0, .func (.yield l) #[] #[]),(1, .pointer (some ⟨qa,0,none⟩)),(2, .pointer (some ⟨qb,0,none⟩)),(4, .pointer (some ⟨h.next,0,none⟩)),(6, .int .i64 (t:Nat)),(7, .pointer (some ⟨G.next,0,none⟩)),(28, .int .i64 (t:Nat))]) (P:=λh'=>Ext G h'∧h'.next=G.next+1/\h'.get G.next=some (.cells (psL p tn) true 1)) ?_ ?_
  ·refine Y4 ?_;refine FW.pu D1 ?_;skip;refine aA (lE (Kp hps (by exact rfl))) ?_;refine aA (sO) ?_;refine aA (bh (by exact rfl) (by exact rfl) YG (by assumption) (by exact rfl) (by assumption)) ?_;refine aO ?_;refine y1 ?_;exact⟨rfl,rfl,rfl,dI (by omega) _ _,rfl,ef _ _⟩
  clear D1;rintro G1 ⟨x1,n1,q1⟩;have WG1:=x1.wf WG;have hP1:P D G1:=Y.fF _ _ _ hP (by omega) λx hx=>x1.old x (by omega);have D2:=vP F.bd (h:={G1 with log:=[]}) (.of WG1) (show Tab G1 from htab _ _ hP1) (by show 0<G1.next;omega) hps;rw[hbb]at D2;unfold Gh at D2;dsimp only at D2;have ks:=QV (b:=tn) hps;have ku:=Ou (b:=tn) (b':=bp) hps;have kuc:(Nat.beq (bK (cellsOf (bxV bp))) 6&&Nat.ble (0+8+6) (bK (psL p tn))&&cK (cellsOf (bxV bp)))=true:=by
   rw[bM (psL p tn),lo14];rfl
  refine aX (E0:=[(0, .func (.yield l) #[] #[]),(1, .pointer (some ⟨qa,0,none⟩)),(2, .pointer (some ⟨qb,0,none⟩)),(4, .pointer (some ⟨h.next,0,none⟩)),(6, .int .i64 (t:Nat)),(7, .pointer (some ⟨G.next,0,none⟩)),(28, .int .i64 (t:Nat))]) (P:=λh'=>Ext G h'∧h'.next=G.next+1/\h'.get G.next=some (.cells (psL p bp) true 1)) ?_ ?_
  ·refine Y4 ?_;refine FW.pu D2 ?_;refine Y4 ?_;refine aA (dZ (by exact rfl) (by exact rfl) q1 kuc ku) ?_;refine aO ?_;refine y1 ?_;exact⟨rfl,rfl,rfl,⟨x1.next,(Heap.aq (by omega)).trans x1.log,λb hb=>(z5 (by omega)).trans (x1.old b hb),λw=>(x1.wf w).as (AS.wr h.next _ _ _)⟩,n1,Heap.aB q1⟩
  clear D2 q1 hP1 WG1 n1 x1;rintro G2 ⟨x2,n2,q2⟩;have kl:=Oq (b:=bp) hps;have kh:=Oo (b:=bp) hps;have cl:Nat.beq (bK (ceL bp.lo)) 3=true:=rfl;have ch:Nat.beq (bK (ceL bp.hi)) 3=true:=rfl;refine aX (E0:=[(0, .func (.yield l) #[] #[]),(1, .pointer (some ⟨qa,0,none⟩)),(2, .pointer (some ⟨qb,0,none⟩)),(4, .pointer (some ⟨h.next,0,none⟩)),(6, .int .i64 (t:Nat)),(7, .pointer (some ⟨G.next,0,none⟩)),(8, .pointer (some ⟨G2.next,0,none⟩)),(9, .pointer (some ⟨G2.next+1,0,none⟩)),(28, .int .i64 (t:Nat))]) (P:=λh'=>Ext G h'∧h'.next=G2.next+2/\h'.get G.next=some (.cells (psL p bp) true 1)/\h'.get G2.next=some (.cells (ceL bp.lo) true 1)/\h'.get (G2.next+1)=some (.cells (ceL bp.hi) true 1)) ?_ ?_
  ·refine Y3 ?_;refine cD rfl rfl rfl (by exact rfl) (by exact rfl) (by exact rfl) (cQ (by exact rfl) (by assumption) (by assumption) (by exact rfl)) ?_;refine Y2 ?_;refine cD rfl rfl rfl (by exact rfl) (by exact rfl) (by exact rfl) (cQ (by exact rfl) (by assumption) (by assumption) (by exact rfl)) ?_;refine zG rfl rfl rfl (by exact rfl) (by exact rfl) (by exact rfl) sO (by refine dR (aG rfl (cQ (by exact rfl) YG (by assumption) (by exact rfl)) (by refine lB ?_;refine dg (ej _ _) ?_;refine dg (ej _ _) ?_;exact dg (ej _ _) (by assumption))) ?_;refine dR (aG rfl (ez (by exact rfl)) (by exact dz _)) ?_;refine dR (aG rfl (ez (by exact rfl)) (by exact dz _)) ?_;refine dR (aG rfl (cQ (by exact rfl) YG (by assumption) (by exact rfl)) (by refine lB ?_;refine dg (ej _ _) ?_;refine dg (ej _ _) ?_;exact dg (ej _ _) (by assumption))) ?_;refine dR (aG rfl (ez (by exact rfl)) (by exact dz _)) ?_;refine dR (aG rfl (ez (by exact rfl)) (by exact dz _)) ?_;exact zj) ?_;refine zG rfl rfl rfl (by exact rfl) (by exact rfl) (by exact rfl) sO (by refine dR (LA rfl) ?_;refine dR (aG rfl (cQ (by exact rfl) YG (by assumption) (by exact rfl)) (by refine lB ?_;refine dg (ej _ _) ?_;refine dg (ej _ _) ?_;exact dg (ej _ _) (by assumption))) ?_;refine dR (aG rfl (ez (by exact rfl)) (by exact dz _)) ?_;refine dR (aG rfl (ez (by exact rfl)) (by exact dz _)) ?_;refine dR (aG rfl (cQ (by exact rfl) YG (by assumption) (by exact rfl)) (by refine lB ?_;refine dg (ej _ _) ?_;refine dg (ej _ _) ?_;exact dg (ej _ _) (by assumption))) ?_;refine dR (aG rfl (ez (by exact rfl)) (by exact dz _)) ?_;refine dR (aG rfl (ez (by exact rfl)) (by exact dz _)) ?_;exact zj) ?_;refine gI rfl rfl rfl (by exact rfl) (by exact rfl) (by exact rfl) YG (by exact rfl) (by exact rfl) (by(simp only[z1,z2];omega)) (by omega) (by(repeat apply aK rfl);apply aM rfl (aG rfl (cQ (by exact rfl) YG (by assumption) (by exact rfl)) (by refine lB ?_;refine dg (ej _ _) ?_;refine dg (ej _ _) ?_;exact dg (ej _ _) (by assumption))) rfl;apply aM rfl (aG rfl (ez (by exact rfl)) (by exact dz _)) rfl;apply aM rfl (aG rfl (ez (by exact rfl)) (by exact dz _)) rfl;(repeat apply aK rfl);exact bV) ?_;refine gI rfl rfl rfl (by exact rfl) (by exact rfl) (by exact rfl) YG (by exact rfl) (by exact rfl) (by(simp only[z1,z2];omega)) (by(simp only[z1,z2];omega)) (by(repeat apply aK rfl);exact bV) ?_;refine Y2 ?_;refine⟨rfl,rfl,rfl,⟨by show G.next<=G2.next+2;omega,by rw[Heap.aq (by show h.next<=G2.next+1;omega),Heap.aq (by omega)];exact x2.log,λb hb=>by
    rw[z5 (by show b≠G2.next+1;omega),z5 (by omega),z4 (by show b<G2.next+1;omega),z4 (by omega)];exact x2.old b hb,λw=>((((x2.wf w).push _).push _).as (AS.wr _ _ _ _)).as (AS.wr _ _ _ _)⟩,rfl,?_,?_,?_⟩
   ·exact YG
   ·exact YG
   ·exact YG
  rintro G3 ⟨x3,n3,q3,q8,q9⟩;rw[n2]at n3 q8 q9⊢;have hk3:Lk lo h G3:=hk.trans (x3.lk (by have:=hk.next;omega));have hP3:P D G3:=Y.fF _ _ _ hP (by omega) λx hx=>x3.old x (by omega);have FX:FxK P lo h G.next rm bp p D G3:=⟨hk3,hP3,by omega,(x3.old _ hnx).trans g4,q3,q8,q9⟩
  have hqN:N<=G.next:=by have:=hk.next;omega
  have hqh:h.next<G.next:=hnx
  clear q2 x2 n2 q3 q8 q9 hk3 hP3 x3 n3 g4 hnx hP hk gB ks ku kuc kp8 lo14 lo14o kl kh cl ch WG;generalize G.next=q at*
  have hx1:=hrm.lo.x;have hx2:=hrm.hi.x;have hy1:=hrm.lo.y;have hy2:=hrm.hi.y;have hz1:=hrm.lo.z;have hz2:=hrm.hi.z;have px1:=hbp.lo.x;have px2:=hbp.hi.x;have py1:=hbp.lo.y;have py2:=hbp.hi.y;have pz1:=hbp.lo.z;have pz2:=hbp.hi.z;have sz1:ah .sub (.int .i64 rm.lo.z) (.int .i64 bp.lo.z)=some (.int .i64 (rm.lo.z-bp.lo.z)):=mW (bJ (by omega) (by omega));have sz2:ah .sub (.int .i64 rm.hi.z) (.int .i64 bp.hi.z)=some (.int .i64 (rm.hi.z-bp.hi.z)):=mW (bJ (by omega) (by omega));have sy1:ah .sub (.int .i64 rm.lo.y) (.int .i64 bp.lo.y)=some (.int .i64 (rm.lo.y-bp.lo.y)):=mW (bJ (by omega) (by omega));have sy2:ah .sub (.int .i64 rm.hi.y) (.int .i64 bp.hi.y)=some (.int .i64 (rm.hi.y-bp.hi.y)):=mW (bJ (by omega) (by omega));have sx1:ah .sub (.int .i64 rm.lo.x) (.int .i64 bp.lo.x)=some (.int .i64 (rm.lo.x-bp.lo.x)):=mW (bJ (by omega) (by omega));have sx2:ah .sub (.int .i64 rm.hi.x) (.int .i64 bp.hi.x)=some (.int .i64 (rm.hi.x-bp.hi.x)):=mW (bJ (by omega) (by omega));have q4:=FX.g4;have q8:=FX.g8;refine Y10 ?_
  refine bW (λk e ds h'=>∃(n:Nat) (z:Int),z=rm.lo.z-bp.lo.z+(n:Nat)/\(n=0∨z<=rm.hi.z-bp.hi.z+1)/\16-n=k/\e=[(0, .func (.yield l) #[] #[]),(1, .pointer (some ⟨qa,0,none⟩)),(2, .pointer (some ⟨qb,0,none⟩)),(4, .pointer (some ⟨h.next,0,none⟩)),(6, .int .i64 (t:Nat)),(7, .pointer (some ⟨q,0,none⟩)),(8, .pointer (some ⟨q+1,0,none⟩)),(9, .pointer (some ⟨q+1+1,0,none⟩)),(10, .int .i64 z),(28, .int .i64 (t:Nat))]/\ds=[]/\FxK P lo h q rm bp p (D++(zrN (rm.lo.z-bp.lo.z) n).flatMap (BC a p rm bp t)) h')
   ⟨0,_,by simp, .inl rfl,rfl,rfl,rfl,by rw[show zrN (rm.lo.z-bp.lo.z) 0=[]from rfl,List.flatMap_nil,List.append_nil];exact FX⟩ ?_
  clear FX q4 q8;rintro k e ds G ⟨n,z,hz,hn,rfl,rfl,rfl,FX⟩;have hn16:n<16:=by omega
  by_cases hle:z<=rm.hi.z-bp.hi.z
  ·have lz:ah .leq (.int .i64 z) (.int .i64 (rm.hi.z-bp.hi.z))=some (.bool true):=kQ hle;have az:ah .add (.int .i64 z) (.int .i64 1)=some (.int .i64 (z+1)):=iD (bJ (by omega) (by omega));have mz:=qc hz hle;have fz:=vA (rm.lo.z-bp.lo.z) n (BC a p rm bp t) hz;have hfy:BC a p rm bp t z=(zr (rm.lo.y-bp.lo.y) (rm.hi.y-bp.hi.y)).flatMap (xS a p rm bp t z):=rfl;have q4:=FX.g4;have q8:=FX.g8;have q9:=FX.g9;generalize hDz:D++(zrN (rm.lo.z-bp.lo.z) n).flatMap (BC a p rm bp t)=Dz at*;refine Y26 ?_
   refine bW (λk e ds h'=>∃(j:Nat) (y:Int),y=rm.lo.y-bp.lo.y+(j:Nat)/\(j=0∨y<=rm.hi.y-bp.hi.y+1)/\16-j=k/\e=[(0, .func (.yield l) #[] #[]),(1, .pointer (some ⟨qa,0,none⟩)),(2, .pointer (some ⟨qb,0,none⟩)),(4, .pointer (some ⟨h.next,0,none⟩)),(6, .int .i64 (t:Nat)),(7, .pointer (some ⟨q,0,none⟩)),(8, .pointer (some ⟨q+1,0,none⟩)),(9, .pointer (some ⟨q+1+1,0,none⟩)),(10, .int .i64 z),(11, .int .i64 y),(28, .int .i64 (t:Nat))]/\ds=[]/\FxK P lo h q rm bp p (Dz++(zrN (rm.lo.y-bp.lo.y) j).flatMap (xS a p rm bp t z)) h')
    ⟨0,_,by simp, .inl rfl,rfl,rfl,rfl,by rw[show zrN (rm.lo.y-bp.lo.y) 0=[]from rfl,List.flatMap_nil,List.append_nil];exact FX⟩ ?_
   clear FX q4 q8 q9;rintro k e ds G ⟨j,y,hy,hj,rfl,rfl,rfl,FX⟩;have hj16:j<16:=by omega
   have q4:=FX.g4;have q8:=FX.g8;have q9:=FX.g9;by_cases hley:y<=rm.hi.y-bp.hi.y
   ·have ly:ah .leq (.int .i64 y) (.int .i64 (rm.hi.y-bp.hi.y))=some (.bool true):=kQ hley;have ay:ah .add (.int .i64 y) (.int .i64 1)=some (.int .i64 (y+1)):=iD (bJ (by omega) (by omega));have my:=qc hy hley;have fy:=vA (rm.lo.y-bp.lo.y) j (xS a p rm bp t z) hy;have hfx:xS a p rm bp t z y=(zr (rm.lo.x-bp.lo.x) (rm.hi.x-bp.hi.x)).flatMap (Bf a p bp t z y):=rfl;generalize hDy:Dz++(zrN (rm.lo.y-bp.lo.y) j).flatMap (xS a p rm bp t z)=Dy at*;refine Y26 ?_
    refine bW (λk e ds h'=>∃(i:Nat) (x:Int),x=rm.lo.x-bp.lo.x+(i:Nat)/\(i=0∨x<=rm.hi.x-bp.hi.x+1)/\16-i=k/\e=[(0, .func (.yield l) #[] #[]),(1, .pointer (some ⟨qa,0,none⟩)),(2, .pointer (some ⟨qb,0,none⟩)),(4, .pointer (some ⟨h.next,0,none⟩)),(6, .int .i64 (t:Nat)),(7, .pointer (some ⟨q,0,none⟩)),(8, .pointer (some ⟨q+1,0,none⟩)),(9, .pointer (some ⟨q+1+1,0,none⟩)),(10, .int .i64 z),(11, .int .i64 y),(12, .int .i64 x),(28, .int .i64 (t:Nat))]/\ds=[]/\FxK P lo h q rm bp p (Dy++(zrN (rm.lo.x-bp.lo.x) i).flatMap (Bf a p bp t z y)) h')
     ⟨0,_,by simp, .inl rfl,rfl,rfl,rfl,by rw[show zrN (rm.lo.x-bp.lo.x) 0=[]from rfl,List.flatMap_nil,List.append_nil];exact FX⟩ ?_
    clear FX q4 q8 q9;rintro k e ds G ⟨i,x,hx,hi,rfl,rfl,rfl,FX⟩;have hi16:i<16:=by omega
    have q4:=FX.g4;have q9:=FX.g9;by_cases hlex:x<=rm.hi.x-bp.hi.x
    ·have lx:ah .leq (.int .i64 x) (.int .i64 (rm.hi.x-bp.hi.x))=some (.bool true):=kQ hlex;have ax:ah .add (.int .i64 x) (.int .i64 1)=some (.int .i64 (x+1)):=iD (bJ (by omega) (by omega));have mx':=qc hx hlex;have fx:=vA (rm.lo.x-bp.lo.x) i (Bf a p bp t z y) hx;have WG:=FX.k.wf hr.wf;have hnG:=FX.k.next
     have hnq:=FX.nx;have q7:=FX.g7;have ka:=Ld (b:=bp) hps;have kl:=ID (b:=bp) hps;have C3:=Ei F.li (h:={G with log:=[]}) (.of WG) hps (b:=bp) (x:=x) (y:=y) (z:=z) (by omega) (by omega) (by omega) pz1 pz2 (by omega) (by omega);have hls:IsS (j6 p bp x y z):=nS hps _ _ _ _;have htry:Bf a p bp t z y x=if sIn (j6 p bp x y z) a then [⟨t,x,y,z,j6 p bp x y z⟩]else []:=rfl
     have hmm:sIn (j6 p bp x y z) a=true->(⟨t,x,y,z,j6 p bp x y z⟩:Fi)∈jQ a b:=λhin=>by
      refine hmem _ (List.mem_flatMap.2 ⟨z,mz,List.mem_flatMap.2 ⟨y,my,List.mem_flatMap.2 ⟨x,mx',?_⟩⟩⟩);rw[htry,if_pos hin];exact List.mem_singleton.2 rfl
     generalize hDx:Dy++(zrN (rm.lo.x-bp.lo.x) i).flatMap (Bf a p bp t z y)=Dx at*;generalize j6 p bp x y z=ls at*;have kls:=bR hls.len;have kll:=aR hls.len;have klo:=cg ls;have klen:(us ls).length=8:=by rw[aI,hls.len]
     refine Y16 ?_;refine aX (E0:=[(0, .func (.yield l) #[] #[]),(1, .pointer (some ⟨qa,0,none⟩)),(2, .pointer (some ⟨qb,0,none⟩)),(4, .pointer (some ⟨h.next,0,none⟩)),(6, .int .i64 (t:Nat)),(7, .pointer (some ⟨q,0,none⟩)),(8, .pointer (some ⟨q+1,0,none⟩)),(9, .pointer (some ⟨q+1+1,0,none⟩)),(10, .int .i64 z),(11, .int .i64 y),(12, .int .i64 x),(13, .pointer (some ⟨G.next,0,none⟩)),(28, .int .i64 (t:Nat))]) (P:=λh'=>Ext G h'∧h'.next=G.next+1/\h'.get G.next=some (.cells (us ls) true 1)) ?_ ?_
     ·refine Y6 ?_;refine FW.pu C3 ?_;refine aA (sO) ?_;refine aA (bh (by exact rfl) (by exact rfl) YG (by assumption) (by exact rfl) (by exact cg _)) ?_;refine aO ?_;refine y1 ?_;exact⟨rfl,rfl,rfl,dI (by omega) _ _,rfl,ef _ _⟩
     clear C3 q4 q9 q7;rintro G' ⟨x',n',g13⟩;have hP':P Dx G':=Y.fF _ _ _ FX.pd (by omega) λz hz=>x'.old z (by omega);have FX':=FX.ext x' (by omega) hqh hP';have WG':=x'.wf WG;have gA:=ga _ _ hP';have C4:=Nx hp F.f35 F.f121 (h:={G' with log:=[]}) (.of WG') hls ha;refine Y4 ?_;refine FW.pu C4 ?_;clear C4;cases hin:sIn ls a with
     |false=>
      rw[hin,if_neg (by simp)]at htry;refine Y21 ?_;refine⟨16-(i+1),by omega,i+1,x+1,by omega, .inr (by omega),rfl,rfl,rfl,?_⟩;rw[fx,htry,List.append_nil,hDx];exact FX'
     |true=>
      rw[hin,if_pos rfl]at htry;refine Y16 ?_;refine zJ (fn:= .yield l) (args:=fiV ⟨t,x,y,z,ls⟩) (by rfl) ?_;refine Y.call hp (hmm hin) WG' (by omega) (by omega) hlb hP' ?_ ?_
      rotate_left
      ·intro h9 hk9 hm9 hS9;refine Y22 ?_;exact Ae ((FX'.k.trans hk9).log (by rw[hr.log];exact fQ.nil _)) rfl hm9 hS9
      intro h2 hk2 hkeep hP2;refine Y13 ?_;refine⟨16-(i+1),by omega,i+1,x+1,by omega, .inr (by omega),rfl,rfl,rfl,?_⟩;rw[fx,htry,←List.append_assoc,hDx];exact FX'.step hk2 hkeep hqh hN hP2
    ·have lx:ah .leq (.int .i64 x) (.int .i64 (rm.hi.x-bp.hi.x))=some (.bool false):=lR (by omega);have hie:=oR (lo:=rm.lo.x-bp.lo.x) (hi:=rm.hi.x-bp.hi.x) (n:=i) (by omega) (by omega);have e:(zrN (rm.lo.x-bp.lo.x) i).flatMap (Bf a p bp t z y)=xS a p rm bp t z y:=by rw[hie];rfl
     rw[e]at FX;refine Y23 ?_;refine⟨16-(j+1),by omega,j+1,y+1,by omega, .inr (by omega),rfl,rfl,rfl,?_⟩;rw[fy,←List.append_assoc,hDy];exact FX
   ·have ly:ah .leq (.int .i64 y) (.int .i64 (rm.hi.y-bp.hi.y))=some (.bool false):=lR (by omega);have hje:=oR (lo:=rm.lo.y-bp.lo.y) (hi:=rm.hi.y-bp.hi.y) (n:=j) (by omega) (by omega);refine Y23 ?_;refine⟨16-(n+1),by omega,n+1,z+1,by omega, .inr (by omega),rfl,rfl,rfl,?_⟩;rw[fz,←List.append_assoc];have e:(zrN (rm.lo.y-bp.lo.y) j).flatMap (xS a p rm bp t z)=BC a p rm bp t z:=by rw[hje];rfl
    rw[e]at FX;rw[hDz];exact FX
  ·have lz:ah .leq (.int .i64 z) (.int .i64 (rm.hi.z-bp.hi.z))=some (.bool false):=lR (by omega);have hne:=oR (lo:=rm.lo.z-bp.lo.z) (hi:=rm.hi.z-bp.hi.z) (n:=n) (by omega) (by omega);have q4:=FX.g4;have q9:=FX.g9;refine Y22 ?_;refine⟨24-(t+1),by omega,t+1,by omega,rfl,rfl,rfl,FX.k,?_,by have:=FX.nx;omega,FX.g4⟩;rw[hT];have:=FX.pd;rw[hne]at this;exact this
 ·obtain rfl:t=24:=by omega
  rw[←hf]at hP;refine Y9 ?_;exact Ad (hk.log (by rw[hr.log];exact fQ.nil _)) rfl hP
end Go.A.Pk
end
section
namespace Go.A.Pk
variable {T:Nat->Option af}
def iU(a b:List Nat):Bool:=decide (b=s0)|| !(jQ a b).isEmpty
def fnF(p q:Nat):Value:= .func (.func 123) #[] #[.pointer (some ⟨p,0,none⟩), .pointer (some ⟨q,0,none⟩)]
def moL(t x y z:Int):List Value:=[.int .i64 t, .int .i64 x, .int .i64 y, .int .i64 z]
structure CH (T:Nat->Option af):Prop where
 ft:Mw T
 f34:T 44=some f34
 f120:T 78=some f120
theorem Kr(F:CH T){h:Heap}(hr:Rdy h){a b:List Nat}(ha:IsS a)(hb:IsS b):
 Al T 78 [sv a,sv b] h λv h'=>∃p q,v=fnF p q/\h'.get p=some (.cells (us a) true 1)/\h'.get q=some (.cells (us b) true 1)/\p<h'.next/\q<h'.next/\h.next<=p/\h.next<=q:=by
 refine .of F.ft.li.p F.f120 hr ?_ ?_
 ·rintro v h1 hv ⟨p,q,rfl,_⟩;cases hv
 refine Y10 ?_;exact fA hr.log rfl ⟨h.next,h.next+1,rfl,YG,YG,by show h.next<h.next+2;omega,by show h.next+1<h.next+2;omega,Nat.le_refl _,Nat.le_succ _⟩
section
open I
def oZ:aQ:=I.R [g 8 (.new [O,O,O,O]),S 4 8 16] [6,7,8]
def o4:aQ:=(.block 1 (Q (I.R [N 18 4 8,S 4 6 18,⟨none, .store 1 (t 7) (.const (.bool true)),none⟩] [])
 (.exit 0)))
end
structure PFi (l:Nat) (H0:Heap) (L:bO) (done:List Fi) (H:Heap):Prop where
 done:done=[]
 old:∀z,z<l->H.get z=H0.get z
 loop:H.get l=some L
structure SFi (l b6 b7:Nat) (H0:Heap) (LX:bO) (all:List Fi) (H:Heap):Prop where
 ne:all≠[]
 old:∀z,z<l->z≠b6->z≠b7->H.get z=H0.get z
 loop:H.get l=some LX
 v6:∃t x y z,H.get b6=some (.cells (moL t x y z) true 1)
 v7:H.get b7=some (.cells [.bool true] true 1)
theorem GB(hp:aV T){H:Heap}(hr:Rdy H){b6 b7 l lo N:Nat}{fv fv2:Value}{f:Fi}(hlo:lo<=b6)(h67:b6<b7)(hql:b7<l)(hlN:l<N){m6:List Value}(hm6:m6.length=4)
 (gl:H.get l=some (.loop [(4,fv2),(6, .pointer (some ⟨b6,0,none⟩)),(7, .pointer (some ⟨b7,0,none⟩)),(15,fv)] [16,17] oZ o4 0 .normal))
 (g6:H.get b6=some (.cells m6 true 1))(g7:H.get b7=some (.cells [.bool false] true 1)){R:Heap->Prop}:
 FW T (.yield l) (fiV f) H λr H'=>(∀z∈H'.log,lo<=z/\z<N)/\(r= .ret (.bool true)/\R H'∨r= .ret (.bool false)/\l∈H'.log/\((∀z,z<H.next->z≠b6->z≠b7->z≠l->H'.get z=H.get z)/\H'.get l=some (.loop [(4,fv2),(6, .pointer (some ⟨b6,0,none⟩)),(7, .pointer (some ⟨b7,0,none⟩)),(15,fv)] [16,17] oZ o4 2 (.exit 0))/\H'.get b6=some (.cells (moL f.t f.x f.y f.z) true 1)/\H'.get b7=some (.cells [.bool true] true 1))):=by
 have k6:=hr.wf.fU g6;have k7:=hr.wf.fU g7;have kl:=hr.wf.fU gl;refine FW.Pt hp (px:= .exit 0) (.inr ⟨0,rfl⟩) (S:=λH'=>(∀z,z<H.next->z≠b6->z≠b7->z≠l->H'.get z=H.get z)/\H'.get l=some (.loop [(4,fv2),(6, .pointer (some ⟨b6,0,none⟩)),(7, .pointer (some ⟨b7,0,none⟩)),(15,fv)] [16,17] oZ o4 2 (.exit 0))/\H'.get b6=some (.cells (moL f.t f.x f.y f.z) true 1)/\H'.get b7=some (.cells [.bool true] true 1)) gl rfl kl ⟨by omega,hlN⟩ ?_;unfold oZ;refine Y3 ?_;refine aO ?_;refine y1 ?_;refine⟨rfl,YG,?_⟩;unfold o4;refine oy ?_;refine WE.Kx ?_;intro hA hAe;have A1:∀z,z<H.next->z≠l->H.get z=hA.get z:=λz hz hne=>by rw[hAe];symm;simp(disch:=first|omega|(simp only[z1,z2];omega))only[z5,z4]
 have A3:hA.get H.next=some (.cells (moL f.t f.x f.y f.z) true 1):=by rw[hAe];(simp(disch:=first|omega|(simp only[z1,z2];omega))only[z3,z4,z5,z6,z7,z1,z2,gl,g6,g7];exact rfl)
 have A2:hA.get l=some (.loop [(4,fv2),(6, .pointer (some ⟨b6,0,none⟩)),(7, .pointer (some ⟨b7,0,none⟩)),(15,fv)] [16,17] oZ o4 1 .normal):=by rw[hAe];(simp(disch:=first|omega|(simp only[z1,z2];omega))only[z3,z4,z5,z6,z7,z1,z2,gl,g6,g7,A3];exact rfl)
 have A5:hA.next=H.next+1:=by rw[hAe];rfl
 have A6:hA.log=[]:=by rw[hAe];simp(disch:=first|omega|(simp only[z1,z2];omega))only[Heap.aq,Heap.uC];exact hr.log
 clear hAe;have B6:=(A1 b6 k6 (by omega)).symm.trans g6;have B7:=(A1 b7 k7 (by omega)).symm.trans g7;have ck:bB 4 (bA 0 (moL f.t f.x f.y f.z))=moL f.t f.x f.y f.z:=rfl;have ckl:Nat.beq (bK (moL f.t f.x f.y f.z)) 4=true:=rfl;have cko:cK (moL f.t f.x f.y f.z)=true:=rfl;have ck4:(moL f.t f.x f.y f.z).length=4:=rfl;refine Y2 ?_;refine aA (bh (by exact rfl) (by exact rfl) (by assumption) (by assumption) (by assumption) (by exact rfl)) ?_;refine Y3 ?_;refine NA (by exact rfl) ?_;refine⟨⟨_,YG,rfl⟩,λz hz=> ?_, .inr ⟨rfl,λh5 hn h5e h5l=>⟨λz hz n6 n7 nl=> ?_,h5l,?_,?_⟩⟩⟩
 ·rcases dx hz with rfl|hz
  ·exact⟨by omega,by omega⟩
  rcases dx hz with rfl|hz
  ·exact⟨by omega,by omega⟩
  rw[A6]at hz;cases hz
 ·refine(h5e z nl).trans ?_;rw[z5 n7,z5 n6];exact(A1 z hz nl).symm
 ·refine(h5e b6 (by omega)).trans ?_;rw[z5 (by omega)];exact Heap.aB B6
 ·refine(h5e b7 (by omega)).trans ?_;rw[z6,z5 (by omega),B7];rfl
theorem Kq{a b:List Nat}(hb:¬b=s0):iU a b= !(jQ a b).isEmpty:=by unfold iU;rw[decide_eq_false hb];rfl
theorem Ns(F:CH T){h:Heap}(hr:Rdy h)(hg:Tab h)(h2:0<h.next){a b:List Nat}(ha:IsS a)(hb:IsS b):
 Al T 44 [sv a,sv b] h λv _=>∃t x y z,v= .tuple #[moV t x y z, .bool (iU a b)]:=by
 have hp:=F.ft.li.p;refine .of hp F.f34 hr (λv h1 hv q=>q) ?_;have ka8:=aR ha.len;have ka9:=bR ha.len;have kb8:=aR hb.len;have kb9:=bR hb.len;have x0:Ext h (((h.push (.cells (cellsOf (sv a)) true 1)).push (.cells (cellsOf (sv b)) true 1)).push (.cells [I.O,I.O,I.O,I.O] true 1)):=(((Ext.refl h).push _).push _).push _;have gA:(((h.push (.cells (cellsOf (sv a)) true 1)).push (.cells (cellsOf (sv b)) true 1)).push (.cells [I.O,I.O,I.O,I.O] true 1)).get h.next=some (.cells (us a) true 1):=YG
 have gB:(((h.push (.cells (cellsOf (sv a)) true 1)).push (.cells (cellsOf (sv b)) true 1)).push (.cells [I.O,I.O,I.O,I.O] true 1)).get (h.next+1)=some (.cells (us b) true 1):=YG;have gC:(((h.push (.cells (cellsOf (sv a)) true 1)).push (.cells (cellsOf (sv b)) true 1)).push (.cells [I.O,I.O,I.O,I.O] true 1)).get (h.next+2)=some (.cells [I.O,I.O,I.O,I.O] true 1):=YG;have n0:(((h.push (.cells (cellsOf (sv a)) true 1)).push (.cells (cellsOf (sv b)) true 1)).push (.cells [I.O,I.O,I.O,I.O] true 1)).next=h.next+3:=rfl
 refine Y6 ?_;refine Bi ?_;generalize(((h.push (.cells (cellsOf (sv a)) true 1)).push (.cells (cellsOf (sv b)) true 1)).push (.cells [I.O,I.O,I.O,I.O] true 1))=H at*;have W:=x0.wf hr.wf;have hL:=x0.log.trans hr.log;by_cases he:b=s0
 ·have hf:iU a b=true:=by unfold iU;rw[decide_eq_true he];rfl
  rw[hf];have ck:bB 4 (bA 0 (moL 0 (-7) (-7) (-7)))=moL 0 (-7) (-7) (-7):=rfl;refine Y4 ?_;refine aA (j0 (b:=s0) (by exact rfl) (by exact rfl) hb.len rfl) ?_;rw[decide_eq_true he];refine Y9 ?_;refine fA ?_ (bH (own:=true) (s:=1) rfl ?_ ck rfl rfl) ⟨0, -7, -7, -7,rfl⟩
  ·rw[Heap.aq (by show h.next<=h.next+2;omega)];exact hL
  ·exact YG
 ·rw[Kq he];refine Y4 ?_;refine aA (j0 (b:=s0) (by exact rfl) (by exact rfl) hb.len rfl) ?_;rw[decide_eq_false he];refine Y4 ?_;refine aX (E0:=[(2, .pointer (some ⟨h.next,0,none⟩)),(3, .pointer (some ⟨h.next+1,0,none⟩)),(4, .pointer (some ⟨h.next+2,0,none⟩)),(6, .pointer (some ⟨H.next,0,none⟩))]) (P:=λh'=>h'=H.push (.cells [I.O,I.O,I.O,I.O] true 1)) ?_ ?_
  ·refine Y2 ?_;refine aO ?_;refine y1 ?_;exact⟨rfl,rfl,rfl,rfl⟩
  rintro _ rfl;refine aX (E0:=[(2, .pointer (some ⟨h.next,0,none⟩)),(3, .pointer (some ⟨h.next+1,0,none⟩)),(4, .pointer (some ⟨h.next+2,0,none⟩)),(6, .pointer (some ⟨H.next,0,none⟩)),(7, .pointer (some ⟨H.next+1,0,none⟩))]) (P:=λh'=>Ext H h'∧h'.next=H.next+2/\h'.get H.next=some (.cells [I.O,I.O,I.O,I.O] true 1)/\h'.get (H.next+1)=some (.cells [.bool false] true 1)) ?_ ?_
  ·refine Y3 ?_;refine aO ?_;refine y1 ?_;exact⟨rfl,rfl,rfl,((Ext.refl H).push _).trans (dI (by show h.next<=H.next+1;omega) _ _),rfl,YG,YG⟩
  rintro H1 ⟨x1,n1,q6,q7⟩;have ey1':=x0.trans x1;have W1:=ey1'.wf hr.wf;have hL1:=ey1'.log.trans hr.log;have gA1:=(x1.old _ (by omega)).trans gA;have gB1:=(x1.old _ (by omega)).trans gB;have gC1:=(x1.old _ (by omega)).trans gC;have C:=Kr F (h:={H1 with log:=[]}) (.of W1) ha hb;clear gA gB gC;refine Y8 ?_;refine FW.al C (λv h' m q=>q) ?_;rintro _ H2 x2 ⟨qa,qb,rfl,ga,gb,kqa,kqb,na,nb⟩;clear C;have na:H1.next<=qa:=na
  have nb:H1.next<=qb:=nb
  have ey2':=ey1'.trans x2;have W2:=ey2'.wf hr.wf;have hL2:=ey2'.log.trans hr.log;have n2:=x2.next
  have gC2:=(x2.old _ (by omega)).trans gC1;have p6:=(x2.old _ (by omega)).trans q6;have p7:=(x2.old _ (by omega)).trans q7;have hg2:Tab H2:=hg.ext ey2' h2;clear gA1 gB1 gC1 q6 q7;refine Y2 ?_;refine Fp (px:= .exit 0) (lo:=H.next) (P:=PFi H2.next H2 (.loop [(4, .pointer (some ⟨h.next+2,0,none⟩)),(6, .pointer (some ⟨H.next,0,none⟩)),(7, .pointer (some ⟨H.next+1,0,none⟩)),(15,fnF qa qb)] [16,17] oZ o4 0 .normal) (jQ a b)) (S:=SFi H2.next H.next (H.next+1) H2 (.loop [(4, .pointer (some ⟨h.next+2,0,none⟩)),(6, .pointer (some ⟨H.next,0,none⟩)),(7, .pointer (some ⟨H.next+1,0,none⟩)),(15,fnF qa qb)] [16,17] oZ o4 2 (.exit 0)) (jQ a b)) rfl (by rfl) (by rw[F.ft.f209];rfl) (by omega) (by omega) hL2 W2 ?_ (λH p=>⟨_,_,_,_,p.loop⟩) (λH p=>⟨_,_,_,_,p.loop⟩) ?_ ?_
  ·have Y:J7 (.exit 0) T H.next (H2.next+1) H2.next fiV (jQ a b) (PFi H2.next H2 (.loop [(4, .pointer (some ⟨h.next+2,0,none⟩)),(6, .pointer (some ⟨H.next,0,none⟩)),(7, .pointer (some ⟨H.next+1,0,none⟩)),(15,fnF qa qb)] [16,17] oZ o4 0 .normal)) (SFi H2.next H.next (H.next+1) H2 (.loop [(4, .pointer (some ⟨h.next+2,0,none⟩)),(6, .pointer (some ⟨H.next,0,none⟩)),(7, .pointer (some ⟨H.next+1,0,none⟩)),(15,fnF qa qb)] [16,17] oZ o4 2 (.exit 0)) (jQ a b)):=by
    refine⟨λdone f Hh hx hrH hN hP=> ?_,λdone Ha Hb p n e=>⟨p.done,λz hz=>(e z (by omega)).trans (p.old z hz),(e _ (by omega)).trans p.loop⟩,λHh m p=>⟨p.ne,p.old,p.loop,p.v6,p.v7⟩,λHh p=>⟨_,_,_,_,p.loop⟩⟩;refine FW.mono' (GB hp hrH (f:=f) (lo:=H.next) (N:=H2.next+1) (R:=λ_=>False) (Nat.le_refl _) (Nat.lt_succ_self _) (by omega) (by omega) (m6:=[I.O,I.O,I.O,I.O]) rfl hP.loop ((hP.old _ (by omega)).trans p6) ((hP.old _ (by omega)).trans p7)) ?_;rintro r' H' ⟨r1,r2⟩;refine⟨r1,r2.imp (λ⟨_,e⟩=>e.elim) λ⟨e1,e2,e3,e4,e5,e6⟩=>⟨e1,e2,List.ne_nil_of_mem hx,λz hz z6 z7=>(e3 z (by omega) z6 z7 (by omega)).trans (hP.old z hz),e4,⟨_,_,_,_,e5⟩,e6⟩⟩
   exact Ks F.ft (.of (W2.push (.loop [(4, .pointer (some ⟨h.next+2,0,none⟩)),(6, .pointer (some ⟨H.next,0,none⟩)),(7, .pointer (some ⟨H.next+1,0,none⟩)),(15,fnF qa qb)] [16,17] oZ o4 0 .normal))) (px:= .exit 0) (qa:=qa) (qb:=qb) (l:=H2.next) (N:=H2.next+1) (lo:=H.next) ha hb (Nat.le_refl _) (by show H.next<=H2.next+1;omega) (Nat.lt_succ_self _) (by omega) Y (λd H' hP=>(hP.old _ kqa).trans ga) (λd H' hP=>(hP.old _ kqb).trans gb) (λd H' hP=>(hP.old 0 (by omega)).trans hg2)
    ⟨rfl,λz hz=>z4 hz,z3 _ _⟩
  ·intro h4 h5 k1 k2 k3 k4 k5 hP;have D4:=(k5 (h.next+2) (by omega)).trans ((hP.old _ (by omega)).trans gC2);have D6:=(k5 H.next (by omega)).trans ((hP.old _ (by omega)).trans p6);have D7:=(k5 (H.next+1) (by omega)).trans ((hP.old _ (by omega)).trans p7);have hd:=hP.done;rw[hd];have ck:bB 4 (bA 0 (moL 0 0 0 0))=moL 0 0 0 0:=rfl;refine Y6 ?_;refine gI rfl rfl rfl (by exact rfl) (by exact rfl) (by exact rfl) (by assumption) (by exact rfl) (by exact rfl) (by omega) (by omega) (by apply aM rfl (aG rfl (fq (by exact rfl) YG (by exact rfl)) (by exact DK _)) rfl;apply aK rfl;exact bV) ?_;refine Y5 ?_;refine fA ?_ (bH (own:=true) (s:=1) rfl ?_ ck rfl rfl) ⟨0,0,0,0,rfl⟩
   ·rw[Heap.aq (by show h.next<=h.next+2;omega)];exact k1
   ·exact YG
  ·intro h4 h5 k1 k2 k3 k4 k5 hP;obtain⟨s1,s2,s3,⟨t,x,y,z,s4⟩,s5⟩:=hP;have D4:=(k5 (h.next+2) (by omega)).trans ((s2 _ (by omega) (by omega) (by omega)).trans gC2);have D6:=(k5 H.next (by omega)).trans s4;have D7:=(k5 (H.next+1) (by omega)).trans s5;have hd:(jQ a b).isEmpty=false:=by
    cases hq:jQ a b with
    |nil=>exact absurd hq s1
    |cons _ _=>rfl
   rw[hd];have ck:bB 4 (bA 0 (moL t x y z))=moL t x y z:=rfl;have ckl:Nat.beq (bK (moL t x y z)) 4=true:=rfl;have cko:cK (moL t x y z)=true:=rfl;have ck4:(moL t x y z).length=4:=rfl;refine Y6 ?_;refine gI rfl rfl rfl (by exact rfl) (by exact rfl) (by exact rfl) (by assumption) (by exact rfl) (by exact rfl) (by omega) (by omega) (by apply aM rfl (aG rfl (fq (by exact rfl) YG (by exact rfl)) (by exact DK _)) rfl;apply aK rfl;exact bV) ?_;refine Y5 ?_;refine fA ?_ (bH (own:=true) (s:=1) rfl ?_ ck rfl rfl) ⟨t,x,y,z,rfl⟩
   ·rw[Heap.aq (by show h.next<=h.next+2;omega)];exact k1
   ·exact YG
structure MC (T:Nat->Option af):Prop where
 fi:CH T
 f33:T 15=some f33
 f89:T 25=some f89
 f90:T 26=some f90
theorem GY(F:MC T){h:Heap}(hr:Rdy h){w:List Nat×List Nat}(hw:IsW w):Pu T 25 [wV w] h (.bool (sIn w.1 w.2)):=by
 have hp:=F.fi.ft.li.p;refine .of hp F.f89 hr rfl ?_;have hwc:cellsOf (wV w)=wL w:=by show(wL w).toArray.toList=_;simp
 have g0:(h.push (.cells (cellsOf (wV w)) true 1)).get h.next=some (.cells (wL w) true 1):=by rw[hwc];exact z3 h _
 have W:WF (h.push (.cells (cellsOf (wV w)) true 1)):=hr.wf.push _;have hL:(h.push (.cells (cellsOf (wV w)) true 1)).log=[]:=hr.log;refine Y4 ?_;generalize(h.push (.cells (cellsOf (wV w)) true 1))=H at*;have C:=Nx hp F.fi.ft.f35 F.fi.ft.f121 (h:={H with log:=[]}) (.of W) hw.a hw.b;have wa:=Mb hw;have wb:=JK hw;have wka:=aR hw.a.len;have wkb:=aR hw.b.len;refine Y6 ?_;refine FW.pu C ?_;refine Y3 ?_;exact ak hL rfl rfl
end Go.A.Pk
end
section
namespace Go.A.Pk
theorem wK{a b:List Nat}(ha:IsS a)(hb:IsS b)(c:Ce):ff (oq a b) c=(ff a c&&ff b c):=by
 by_cases hc:inG c=true
 ·obtain⟨z,i,hz,hi,rfl⟩:=iB hc;rw[ij hz hi,ij hz hi,ij hz hi];unfold oq qZ;rw[GK ha hb hz];exact Nat.testBit_and ..
 ·rw[jg hc,jg hc,jg hc];rfl
theorem xY{a b:List Nat}(ha:IsS a)(hb:IsS b)(h:∀z i,z<8->i<64->ff a (eC z i)=ff b (eC z i)):a=b:=by
 apply List.ext_getElem?;intro z;rcases Nat.lt_or_ge z 8 with hz|hz
 ·rw[jI (by rw[ha.len];exact hz),jI (by rw[hb.len];exact hz)];congr 1;apply Nat.eq_of_testBit_eq;intro i;rcases Nat.lt_or_ge i 64 with hi|hi
  ·have:=h z i hz hi
   rwa [ij hz hi,ij hz hi]at this
  ·have big:∀x:Nat,x<U64->x.testBit i=false:=λx hx=>Nat.testBit_lt_two_pow (Nat.lt_of_lt_of_le hx (show 2 ^ 64<=2 ^ i from Nat.pow_le_pow_right (by omega) hi));rw[big _ (ha.jJ z),big _ (hb.jJ z)]
 ·rw[List.getElem?_eq_none (by rw[ha.len];exact hz),List.getElem?_eq_none (by rw[hb.len];exact hz)]
theorem Gq{z i:Nat}(hz:z<8)(hi:i<64):eC z i∈(List.range 512).map ceN:=by
 rw[←xM hi];exact List.mem_map_of_mem (List.mem_range.2 (by omega))
def mlo(f:Ce->Int)(m:Int)(l:List Ce):Int:=l.foldl (λm c=>mi m (f c)) m
def mhi(f:Ce->Int)(m:Int)(l:List Ce):Int:=l.foldl (λm c=>mx m (f c)) m
theorem NN(a b:Int):mi a b<=a:=by unfold mi;split<;>omega
theorem NO(a b:Int):mi a b<=b:=by unfold mi;split<;>omega
theorem NS(a b:Int):a<=mx a b:=by unfold mx;split<;>omega
theorem NT(a b:Int):b<=mx a b:=by unfold mx;split<;>omega
theorem QJ{k a b:Int}(h1:k<=a)(h2:k<=b):k<=mi a b:=by unfold mi;split<;>omega
theorem QK{k a b:Int}(h1:a<=k)(h2:b<=k):mx a b<=k:=by unfold mx;split<;>omega
theorem yq(f:Ce->Int):∀(l:List Ce) (m:Int),mlo f m l<=m/\∀c∈l,mlo f m l<=f c
 |[],m=>⟨Int.le_refl _,λc hc=>by cases hc⟩
 |c::l,m=>by
  obtain⟨h1,h2⟩:=yq f l (mi m (f c));refine⟨Int.le_trans h1 (NN _ _),λd hd=> ?_⟩;rcases List.mem_cons.1 hd with rfl|hd
  ·exact Int.le_trans h1 (NO _ _)
  ·exact h2 d hd
theorem yp(f:Ce->Int){k:Int}:∀(l:List Ce) (m:Int),k<=m->(∀c∈l,k<=f c)->k<=mlo f m l
 |[],_,h,_=>h
 |c::l,m,h,hl=>yp f l (mi m (f c)) (QJ h (hl c List.mem_cons_self)) λd hd=>hl d (List.mem_cons_of_mem _ hd)
theorem yh(f:Ce->Int):∀(l:List Ce) (m:Int),m<=mhi f m l/\∀c∈l,f c<=mhi f m l
 |[],m=>⟨Int.le_refl _,λc hc=>by cases hc⟩
 |c::l,m=>by
  obtain⟨h1,h2⟩:=yh f l (mx m (f c));refine⟨Int.le_trans (NS _ _) h1,λd hd=> ?_⟩;rcases List.mem_cons.1 hd with rfl|hd
  ·exact Int.le_trans (NT _ _) h1
  ·exact h2 d hd
theorem yj(f:Ce->Int){k:Int}:∀(l:List Ce) (m:Int),m<=k->(∀c∈l,f c<=k)->mhi f m l<=k
 |[],_,h,_=>h
 |c::l,m,h,hl=>yj f l (mx m (f c)) (QK h (hl c List.mem_cons_self)) λd hd=>hl d (List.mem_cons_of_mem _ hd)
theorem CY:∀(l:List Ce) (b:Bx),l.foldl mY b=⟨⟨mlo (·.x) b.lo.x l,mlo (·.y) b.lo.y l,mlo (·.z) b.lo.z l⟩,⟨mhi (·.x) b.hi.x l,mhi (·.y) b.hi.y l,mhi (·.z) b.hi.z l⟩⟩
 |[],b=>rfl
 |c::l,b=>by rw[List.foldl_cons,CY l (mY b c)];rfl
theorem BA(l:List Ce):bxS l=⟨⟨mlo (·.x) 7 l,mlo (·.y) 7 l,mlo (·.z) 7 l⟩,⟨mhi (·.x) 0 l,mhi (·.y) 0 l,mhi (·.z) 0 l⟩⟩:=CY l bx0
def Sub(a b:List Nat):Prop:=∀c,ff a c=true->ff b c=true
theorem LD{a b:List Nat}(ha:IsS a)(hb:IsS b):sIn a b=true↔Sub a b:=by
 unfold sIn;rw[decide_eq_true_eq];constructor
 ·intro h c hc;have e:ff (oq a b) c=ff a c:=by rw[h]
  rw[wK ha hb,hc,Bool.true_and]at e;exact e
 ·intro h;refine xY (ha.meet hb) ha λz i hz hi=> ?_;rw[wK ha hb];cases hc:ff a (eC z i)with
  |false=>rfl
  |true=>rw[h _ hc];rfl
end Go.A.Pk
end
section
namespace Go.A.Pk
variable {T:Nat->Option af}
def LsS{α:Type}(f:α->List Value)(n:Nat)(h:Heap)(v:Value)(l:List α):Prop:=bS h n v l.length (l.flatMap f)
section
variable {α:Type} {f:α->List Value} {n:Nat}
theorem Dd:∀{l:List α} {i:Nat} {x:α},(∀x∈l,(f x).length=n)->l[i]? =some x->((l.flatMap f).drop (i*n)).take n=f x
 |[],i,x,_,h=>by simp at h
 |y::l,0,x,hl,h=>by
  simp at h;subst h;have:=hl y List.mem_cons_self;rw[List.flatMap_cons,Nat.zero_mul,List.drop_zero,List.take_append_of_le_length (by omega),List.take_of_length_le (by omega)]
 |y::l,i+1,x,hl,h=>by
  have e8:=hl y List.mem_cons_self;have e2:(f y++l.flatMap f).drop n=l.flatMap f:=by rw[←e8];exact List.drop_left
  rw[List.flatMap_cons,show(i+1)*n=n+i*n by rw[Nat.succ_mul];omega,←List.drop_drop,e2];exact Dd (λs hs=>hl s (List.mem_cons_of_mem _ hs)) (by simpa using h)
theorem LsS.elem{h:Heap}{v:Value}{l:List α}(s:LsS f n h v l)(hl:∀x∈l,(f x).length=n){i:Nat}{x:α}(hi:l[i]? =some x):
 ∃b o c vs own t,v= .slice (some ⟨b,o,none⟩) l.length c/\h.get b=some (.cells vs own t)/\b<h.next/\bB n (bA (o+i*n) vs)=f x:=by
 have hlt:=(List.getElem?_eq_some_iff.1 hi).1;rcases bS.inv s with⟨_,_,h0,_⟩|⟨b,o,cap,hv,s1,hc⟩
 ·omega
 ·obtain⟨vs,own,t,g1,g2⟩:=s1.obj;refine⟨b,o,cap,vs,own,t,hv,g1,s1.lt,?_⟩;rw[←Dd hl hi,←g2];simp only[cZ,cw,List.drop_take,List.take_take,List.drop_drop];congr 1;have:i*n+n<=l.length*n:=by rw[←Nat.succ_mul];exact Nat.mul_le_mul_right n hlt
  omega
theorem tN{vs r:List Value}{o n j:Nat}{x:Value}(h:bB n (bA o vs)=r)(hj:j<n)(hr:r[j]? =some x):aT vs (o+j)=some x:=by
 rw[←h,cZ,cw,List.getElem?_take_of_lt hj,List.getElem?_drop]at hr;rw[cA];exact hr
theorem zi{vs r q:List Value}{o n j m:Nat}(h:bB n (bA o vs)=r)(hj:j+m<=n)(hr:bB m (bA j r)=q):bB m (bA (o+j) vs)=q:=by
 rw[←hr,←h];simp only[cZ,cw,List.drop_take,List.take_take,List.drop_drop];congr 1;omega
end
structure Od where
 id:Int
 fr:Int
 to:Int
 size:Int
 qT:Int
 cB:List Nat
structure Sp where
 id:Int
 size:Int
 cB:List Nat
def odL(x:Od):List Value:=[.int .i64 x.id, .int .i64 x.fr, .int .i64 x.to, .int .i64 x.size, .int .i64 x.qT]++us x.cB
def spL(x:Sp):List Value:=[.int .i64 x.id, .int .i64 x.size]++us x.cB
def odV(x:Od):Value:= .agg (odL x).toArray
def spV(x:Sp):Value:= .agg (spL x).toArray
theorem eY{x:Od}(h:IsS x.cB):(odL x).length=13:=by simp[odL,aI,h.len]
theorem dV{x:Sp}(h:IsS x.cB):(spL x).length=10:=by simp[spL,aI,h.len]
theorem iF{x:Od}(h:IsS x.cB):bB 8 (bA (0+5) (odL x))=us x.cB:=by
 rw[cZ,cw];show(us x.cB).take 8=_;rw[List.take_of_length_le (by rw[aI,h.len];omega)]
theorem lu{x:Sp}(h:IsS x.cB):bB 8 (bA (0+2) (spL x))=us x.cB:=by
 rw[cZ,cw];show(us x.cB).take 8=_;rw[List.take_of_length_le (by rw[aI,h.len];omega)]
theorem lH{x:Od}(h:IsS x.cB):bB 13 (bA 0 (odL x))=odL x:=by
 rw[cZ,cw,List.drop_zero,List.take_of_length_le (by rw[eY h];omega)]
theorem kn{x:Sp}(h:IsS x.cB):bB 10 (bA 0 (spL x))=spL x:=by
 rw[cZ,cw,List.drop_zero,List.take_of_length_le (by rw[dV h];omega)]
theorem je{x:Od}(h:IsS x.cB):Nat.beq (bK (odL x)) 13=true:=by rw[bM,eY h];rfl
theorem iH{x:Sp}(h:IsS x.cB):Nat.beq (bK (spL x)) 10=true:=by rw[bM,dV h];rfl
theorem jT(x:Od):cK (odL x)=true:=dL rfl (cg _)
theorem jj(x:Sp):cK (spL x)=true:=dL rfl (cg _)
structure OdS (h:Heap) (v:Value) (l:List Od):Prop where
 sl:LsS odL 13 h v l
 ok:∀x∈l,IsS x.cB
structure SpS (h:Heap) (v:Value) (l:List Sp):Prop where
 sl:LsS spL 10 h v l
 ok:∀x∈l,IsS x.cB
theorem OdS.form{h:Heap}{v:Value}{l:List Od}(s:OdS h v l):∃a c,v= .slice a l.length c:=bS.form s.sl
theorem OdS.ext{h h':Heap}{v:Value}{l:List Od}(s:OdS h v l)(x:Ext h h'):OdS h' v l:=⟨bS.ext s.sl x,s.ok⟩
theorem OdS.log{h:Heap}{v:Value}{l:List Od}(s:OdS h v l)(m:List Nat):OdS {h with log:=m} v l:=⟨bS.log s.sl m,s.ok⟩
theorem SpS.form{h:Heap}{v:Value}{l:List Sp}(s:SpS h v l):∃a c,v= .slice a l.length c:=bS.form s.sl
theorem SpS.ext{h h':Heap}{v:Value}{l:List Sp}(s:SpS h v l)(x:Ext h h'):SpS h' v l:=⟨bS.ext s.sl x,s.ok⟩
theorem SpS.log{h:Heap}{v:Value}{l:List Sp}(s:SpS h v l)(m:List Nat):SpS {h with log:=m} v l:=⟨bS.log s.sl m,s.ok⟩
theorem OdS.elem{h:Heap}{v:Value}{l:List Od}(s:OdS h v l){i:Nat}{x:Od}(hi:l[i]? =some x):
 ∃b o c vs own t,v= .slice (some ⟨b,o,none⟩) l.length c/\h.get b=some (.cells vs own t)/\b<h.next/\bB 13 (bA (o+i*13) vs)=odL x:=
 LsS.elem s.sl (λx hx=>eY (s.ok x hx)) hi
theorem SpS.elem{h:Heap}{v:Value}{l:List Sp}(s:SpS h v l){i:Nat}{x:Sp}(hi:l[i]? =some x):
 ∃b o c vs own t,v= .slice (some ⟨b,o,none⟩) l.length c/\h.get b=some (.cells vs own t)/\b<h.next/\bB 10 (bA (o+i*10) vs)=spL x:=
 LsS.elem s.sl (λx hx=>dV (s.ok x hx)) hi
def thB(id size:Int)(w:List Nat):Bool:=inR id 1 1000000&&inR size 1 1000000&&decide (w≠s0)
def odB(x:Od):Bool:=thB x.id x.size x.cB&&decide (0<=x.fr)&&decide (x.fr<=x.to)&&decide (x.to<=100000)&&inR x.qT 0 1000000
def spB(x:Sp):Bool:=thB x.id x.size x.cB
structure tQ (T:Nat->Option af):Prop where
 p:aV T
 f273:T 107=some f273
 f274:T 108=some f274
 f276:T 110=some f276
 f277:T 111=some f277
 f278:T 112=some f278
 f279:T 113=some f279
theorem Dg(F:tQ T){h:Heap}(hr:Rdy h)(n a b:Int):Pu T 113 [.int .i64 n, .int .i64 a, .int .i64 b] h (.bool (inR n a b)):=by
 refine .of F.p F.f279 hr rfl ?_;unfold inR;by_cases h1:a<=n
 ·by_cases h2:n<=b
  ·rw[decide_eq_true ⟨h1,h2⟩];refine Y18 ?_;exact ak hr.log rfl rfl
  ·rw[decide_eq_false (λq=>h2 q.2)];refine Y18 ?_;exact ak hr.log rfl rfl
 ·rw[decide_eq_false (λq=>h1 q.1)];refine Y15 ?_;exact ak hr.log rfl rfl
theorem Be(F:tQ T){h:Heap}(hr:Rdy h)(id size:Int){w:List Nat}(hw:IsS w):Pu T 111 [.int .i64 id, .int .i64 size,sv w] h (.bool (thB id size w)):=by
 refine .of F.p F.f277 hr rfl ?_;have hsc:cellsOf (sv w)=us w:=by show(us w).toArray.toList=_;simp
 have x0:Ext h (h.push (.cells (cellsOf (sv w)) true 1)):=(Ext.refl h).push _;have g0:(h.push (.cells (cellsOf (sv w)) true 1)).get h.next=some (.cells (us w) true 1):=by rw[hsc];exact z3 _ _
 refine Y4 ?_;generalize(h.push (.cells (cellsOf (sv w)) true 1))=H at*;have W:=x0.wf hr.wf;have hL:=x0.log.trans hr.log;have k8:=aR hw.len;have k9:=bR hw.len;have C1:=Dg F (h:={H with log:=[]}) (.of W) id 1 1000000;have C2:=Dg F (h:={H with log:=[]}) (.of W) size 1 1000000;unfold thB;cases h1:inR id 1 1000000 with
 |false=>
  rw[h1]at C1;refine Y3 ?_;refine FW.pu C1 ?_;refine Y12 ?_;exact ak hL rfl rfl
 |true=>
  rw[h1]at C1;cases h2:inR size 1 1000000 with
  |false=>
   rw[h2]at C2;refine Y3 ?_;refine FW.pu C1 ?_;refine Y5 ?_;refine FW.pu C2 ?_;refine Y9 ?_;exact ak hL rfl rfl
  |true=>
   rw[h2]at C2;refine Y3 ?_;refine FW.pu C1 ?_;refine Y5 ?_;refine FW.pu C2 ?_;refine Y7 ?_;refine aA (j0 (b:=s0) (by exact rfl) (by exact rfl) hw.len rfl) ?_;refine Y4 ?_;refine ak hL rfl ?_;rw[show(decide (w≠s0))= !decide (w=s0)by simp];rfl
theorem Qu(F:tQ T){h:Heap}(hr:Rdy h){x:Od}(hx:IsS x.cB):Pu T 108 [odV x] h (.int .i64 x.id):=by
 refine .of F.p F.f274 hr rfl ?_;have hc:cellsOf (odV x)=odL x:=by show(odL x).toArray.toList=_;simp
 have x0:Ext h (h.push (.cells (cellsOf (odV x)) true 1)):=(Ext.refl h).push _;have g0:(h.push (.cells (cellsOf (odV x)) true 1)).get h.next=some (.cells (odL x) true 1):=by rw[hc];exact z3 _ _
 refine Y4 ?_;generalize(h.push (.cells (cellsOf (odV x)) true 1))=H at*;have hL:=x0.log.trans hr.log;have k1:aT (odL x) (0+0)=some (.int .i64 x.id):=rfl;refine Y6 ?_;exact ak hL rfl rfl
theorem Qv(F:tQ T){h:Heap}(hr:Rdy h){x:Sp}(hx:IsS x.cB):Pu T 112 [spV x] h (.int .i64 x.id):=by
 refine .of F.p F.f278 hr rfl ?_;have hc:cellsOf (spV x)=spL x:=by show(spL x).toArray.toList=_;simp
 have x0:Ext h (h.push (.cells (cellsOf (spV x)) true 1)):=(Ext.refl h).push _;have g0:(h.push (.cells (cellsOf (spV x)) true 1)).get h.next=some (.cells (spL x) true 1):=by rw[hc];exact z3 _ _
 refine Y4 ?_;generalize(h.push (.cells (cellsOf (spV x)) true 1))=H at*;have hL:=x0.log.trans hr.log;have k1:aT (spL x) (0+0)=some (.int .i64 x.id):=rfl;refine Y6 ?_;exact ak hL rfl rfl
theorem Rb(F:tQ T){h:Heap}(hr:Rdy h){x:Sp}(hx:IsS x.cB):Pu T 110 [spV x] h (.bool (spB x)):=by
 refine .of F.p F.f276 hr rfl ?_;have hc:cellsOf (spV x)=spL x:=by show(spL x).toArray.toList=_;simp
 have x0:Ext h (h.push (.cells (cellsOf (spV x)) true 1)):=(Ext.refl h).push _;have g0:(h.push (.cells (cellsOf (spV x)) true 1)).get h.next=some (.cells (spL x) true 1):=by rw[hc];exact z3 _ _
 refine Y4 ?_;generalize(h.push (.cells (cellsOf (spV x)) true 1))=H at*;have W:=x0.wf hr.wf;have hL:=x0.log.trans hr.log;have k1:aT (spL x) (0+0)=some (.int .i64 x.id):=rfl;have k2:aT (spL x) (0+1)=some (.int .i64 x.size):=rfl;have k3:=lu hx;have k4:=aR hx.len;have C:=Be F (h:={H with log:=[]}) (.of W) x.id x.size hx;refine Y8 ?_;refine FW.pu C ?_;refine Y3 ?_;exact ak hL rfl rfl
theorem Ja(F:tQ T){h:Heap}(hr:Rdy h){x:Od}(hx:IsS x.cB):Pu T 107 [odV x] h (.bool (odB x)):=by
 refine .of F.p F.f273 hr rfl ?_;have hc:cellsOf (odV x)=odL x:=by show(odL x).toArray.toList=_;simp
 have x0:Ext h (h.push (.cells (cellsOf (odV x)) true 1)):=(Ext.refl h).push _;have g0:(h.push (.cells (cellsOf (odV x)) true 1)).get h.next=some (.cells (odL x) true 1):=by rw[hc];exact z3 _ _
 refine Y4 ?_;generalize(h.push (.cells (cellsOf (odV x)) true 1))=H at*;have W:=x0.wf hr.wf;have hL:=x0.log.trans hr.log;have k0:aT (odL x) (0+0)=some (.int .i64 x.id):=rfl;have k1:aT (odL x) (0+1)=some (.int .i64 x.fr):=rfl;have k2:aT (odL x) (0+2)=some (.int .i64 x.to):=rfl;have k3:aT (odL x) (0+3)=some (.int .i64 x.size):=rfl;have k4:aT (odL x) (0+4)=some (.int .i64 x.qT):=rfl;have k5:=iF hx;have k6:=aR hx.len;have C:=Be F (h:={H with log:=[]}) (.of W) x.id x.size hx;have C2:=Dg F (h:={H with log:=[]}) (.of W) x.qT 0 1000000;unfold odB;cases h1:thB x.id x.size x.cB with
 |false=>
  rw[h1]at C;refine Y8 ?_;refine FW.pu C ?_;refine Y25 ?_;exact ak hL rfl rfl
 |true=>
  rw[h1]at C;by_cases a1:0<=x.fr;case neg=>
   have m1:ah .geq (.int .i64 x.fr) (.int .i64 0)=some (.bool false):=BM (by omega);rw[decide_eq_false a1];refine Y8 ?_;refine FW.pu C ?_;refine Y28 ?_;exact ak hL rfl rfl
  have m1:ah .geq (.int .i64 x.fr) (.int .i64 0)=some (.bool true):=ye (by omega);rw[decide_eq_true a1];by_cases a2:x.fr<=x.to;case neg=>
   have m2:ah .leq (.int .i64 x.fr) (.int .i64 x.to)=some (.bool false):=lR (by omega);rw[decide_eq_false a2];refine Y8 ?_;refine FW.pu C ?_;refine Y33 ?_;exact ak hL rfl rfl
  have m2:ah .leq (.int .i64 x.fr) (.int .i64 x.to)=some (.bool true):=kQ (by omega);rw[decide_eq_true a2];by_cases a3:x.to<=100000;case neg=>
   have m3:ah .leq (.int .i64 x.to) (.int .i64 100000)=some (.bool false):=lR (by omega);rw[decide_eq_false a3];refine Y8 ?_;refine FW.pu C ?_;refine Y36 ?_;exact ak hL rfl rfl
  have m3:ah .leq (.int .i64 x.to) (.int .i64 100000)=some (.bool true):=kQ (by omega);rw[decide_eq_true a3];refine Y8 ?_;refine FW.pu C ?_;refine Y35 ?_;refine FW.pu C2 ?_;refine Y4 ?_;exact ak hL rfl rfl
end Go.A.Pk
end
