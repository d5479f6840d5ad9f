/- Walks of functions, plain laws, the table. -/
import Derived.Test.YtgffeapobcfigaaGreatDoorFU0
import Derived.Test.YtgffeapobcfigaaGreatDoorFD
import Derived.Test.YtgffeapobcfigaaGreatDoorFV
import Derived.Test.YtgffeapobcfigaaGreatDoorFF
set_option linter.all false
set_option maxHeartbeats 16000000
set_option maxRecDepth 100000
section
namespace Go.A.Pk
variable {T:Nat->Option af}
def ints(l:List Int):List Value:=l.map λx=> .int .i64 x
structure NP (T:Nat->Option af):Prop where
 p:aP T
 f171:T 171=some f171
 f225:T 225=some f225
theorem P5(F:NP T){h:Heap}(hr:Rdy h){s:List Nat}(hs:IsS s)(c:Ce):Pu T 171 [sv s,ceV c] h (.bool (dN s c)):=by
 refine .of F.p F.f171 hr rfl ?_;have W:=(hr.wf.push (.cells (cellsOf (sv s)) true 1)).push (.cells (cellsOf (ceV c)) true 1);have C:=yq F.p F.f225 (.of W) c;by_cases hc:inG c=true
 ·obtain⟨z,i,hz,hi,rfl⟩:=gP hc;rw[hc]at C;rw[eS hz hi,←LM];have e1:=iw (jP (s:=s) (i:=z) (by rw[hs.len];exact hz));have k1:=rG (hs.jL z) (sd hi);have k2:ah .neq (.int .u64 ((Nat.land (s.getD z 0) (2 ^ i):Nat):Int)) (.int .u64 0)=some (.bool (decide (Nat.land (s.getD z 0) (2 ^ i)≠0))):=by
   rw[DN];by_cases q:Nat.land (s.getD z 0) (2 ^ i)=0
   ·rw[q];rfl
   ·rw[decide_eq_true q];have:((Nat.land (s.getD z 0) (2 ^ i):Nat):Int)≠0:=by omega
    simp only[bne,beq_eq_false_iff_ne.2 this];rfl
  have k4:ah .mul (.int .i64 8) (.int .i64 (dY z i).y)=some (.int .i64 (8*((i / 8:Nat):Int))):=EB (b:=((i / 8:Nat):Int)) (by omega) (by omega);have k5:ah .add (.int .i64 (8*((i / 8:Nat):Int))) (.int .i64 (dY z i).x)=some (.int .i64 ((i:Nat):Int)):=lR (b:=((i % 8:Nat):Int)) (by rw[bZ]<;>omega);have k6:=Di (k:= .u64) hi;have k7:fk .u64 ((i:Nat):Int)=((i:Nat):Int):=mO (by omega);refine Y9 ?_;refine FW.puD C (by apply aI rfl;exact bg) ?_;clear C;refine Y4 ?_;refine aU rfl rfl rfl (by exact rfl) (by exact rfl) (by exact rfl) (eT (by exact rfl) YG (by assumption)) ?_;refine Y6 ?_;refine aU rfl rfl rfl (by exact rfl) (by exact rfl) (by exact rfl) (wv (by exact rfl) (by assumption)) ?_;refine Y9 ?_;exact an hr.log rfl rfl
 ·have hc:inG c=false:=by simpa using hc
  rw[hc]at C;rw[show dN s c=false by unfold dN;rw[hc];rfl];refine Y9 ?_;refine FW.puD C (by apply aI rfl;exact bg) ?_;clear C;refine Y21 ?_;exact an hr.log rfl rfl
def ceN(n:Nat):Ce:=⟨(n % 8:Nat),(n / 8 % 8:Nat),(n / 64:Nat)⟩
def ceS(l:List Ce):List Value:=l.flatMap ceL
theorem LV(a b:List Ce):ceS (a++b)=ceS a++ceS b:=by simp[ceS]
def aR(s:List Nat)(n:Nat):List Ce:=((List.range n).map ceN).filter (dN s)
theorem se(s:List Nat)(n:Nat):aR s (n+1)=aR s n++(if dN s (ceN n)then [ceN n]else []):=by
 unfold aR;rw[List.range_succ,List.map_append,List.filter_append];congr 1;simp only[List.map_cons,List.map_nil,List.filter_cons,List.filter_nil]
theorem iA(s:List Nat)(n:Nat):(aR s n).length<=n:=by
 unfold aR;exact Nat.le_trans (List.length_filter_le ..) (by simp)
structure ER (T:Nat->Option af):Prop where
 hr:NP T
 f170:T 170=some f170
theorem rR(F:ER T){h:Heap}(hr:Rdy h){s:List Nat}(hs:IsS s):Al T 170 [sv s] h λv h'=>Own h.next h' 3 v (aR s 512).length (ceS (aR s 512)):=by
 refine .of F.hr.p F.f170 hr ?_ ?_
 ·intro v h1 hv q;generalize(aR s 512).length=m at q⊢;generalize ceS (aR s 512)=cs at q⊢;cases q with
  |nil=>exact .nil
  |full=>cases hv
 have k8:=aG hs.len;have k9:=aN hs.len;have g0:(h.push (.cells (cellsOf (sv s)) true 1)).get h.next=some (.cells (us s) true 1):=z3 h _
 have x0:Ext h (h.push (.cells (cellsOf (sv s)) true 1)):=(Ext.refl h).push _;have n0:(h.push (.cells (cellsOf (sv s)) true 1)).next=h.next+1:=rfl
 refine Y4 ?_;generalize(h.push (.cells (cellsOf (sv s)) true 1))=H at*;refine Y8 ?_;let J:=λ(n:Nat) (v:Value) (h':Heap)=>Ext h h'∧h.next<h'.next/\h'.get h.next=some (.cells (us s) true 1)/\Own (h.next+1) h' 3 v (aR s n).length (ceS (aR s n))
 refine bD (λm e ds h'=>∃(z:Nat) (v:Value),z<=8/\m=8-z/\e=[(1, .pointer (some ⟨h.next,0,none⟩)),(3,v),(4, .int .i64 (z:Nat))]/\ds=[]/\J (z*64) v h')
  ⟨0,_,by omega,rfl,rfl,rfl,x0,by omega,g0, .nil⟩ ?_
 rintro m e ds H1 ⟨z,v,hz8,rfl,rfl,rfl,j1⟩;by_cases hz:z<8
 ·refine Y14 ?_
  refine bD (λm e ds h'=>∃(y:Nat) (v:Value),y<=8/\m=8-y/\e=[(1, .pointer (some ⟨h.next,0,none⟩)),(3,v),(4, .int .i64 (z:Nat)),(5, .int .i64 (y:Nat))]/\ds=[]/\J (z*64+y*8) v h')
   ⟨0,v,by omega,rfl,rfl,rfl,j1⟩ ?_
  rintro m e ds H2 ⟨y,v,hy8,rfl,rfl,rfl,j2⟩;clear j1;by_cases hy:y<8
  ·refine Y14 ?_
   refine bD (λm e ds h'=>∃(x:Nat) (v:Value),x<=8/\m=8-x/\e=[(1, .pointer (some ⟨h.next,0,none⟩)),(3,v),(4, .int .i64 (z:Nat)),(5, .int .i64 (y:Nat)),(6, .int .i64 (x:Nat))]/\ds=[]/\J (z*64+y*8+x) v h')
    ⟨0,v,by omega,rfl,rfl,rfl,j2⟩ ?_
   rintro m e ds H3 ⟨x,v,hx8,rfl,rfl,rfl,j3⟩;clear j2;by_cases hx:x<8
   ·obtain⟨x3,n3,g3,ow⟩:=j3;refine Y10 ?_;refine dI (E0:=[(1, .pointer (some ⟨h.next,0,none⟩)),(3,v),(4, .int .i64 (z:Nat)),(5, .int .i64 (y:Nat)),(6, .int .i64 (x:Nat)),(7, .pointer (some ⟨H3.next,0,none⟩))]) (P:=λh'=>Ext H3 h'∧h'.next=H3.next+1/\h'.get H3.next=some (.cells (ceL ⟨(x:Nat),(y:Nat),(z:Nat)⟩) true 1)) ?_ ?_
    ·refine Y7 ?_;refine cN ?_;refine y1 ?_;exact⟨rfl,rfl,rfl,dO (by omega) _ _,rfl,fC _ _⟩
    rintro H4 ⟨x4,n4,g4⟩;have hce:ceN (z*64+y*8+x)=⟨(x:Nat),(y:Nat),(z:Nat)⟩:=by
     unfold ceN;rw[show(z*64+y*8+x) % 8=x by omega,show(z*64+y*8+x) / 8 % 8=y by omega,show(z*64+y*8+x) / 64=z by omega]
    have hst:=se s (z*64+y*8+x);rw[hce]at hst;have hle:=iA s (z*64+y*8+x);have ey0':=x3.trans x4;have W4:=ey0'.wf hr.wf;have g5:=(x4.old _ n3).trans g3;have ow5:=ow.ext x4;generalize hce2:(⟨(x:Nat),(y:Nat),(z:Nat)⟩:Ce)=ce at*;have C:=P5 F.hr (.of W4) hs ce;have ck:bK 3 (bE 0 (ceL ce))=ceL ce:=rfl;have ckl:Nat.beq (bO (ceL ce)) 3=true:=rfl;clear g3 ow;refine Y4 ?_;refine FW.pu C ?_;clear C;cases hb:dN s ce with
    |false=>
     rw[hb,if_neg (by simp),List.append_nil]at hst;refine Y10 ?_;refine⟨8-(x+1),by omega,x+1,v,by omega,rfl,rfl,rfl,ey0',by omega,g5,?_⟩;show Own _ _ _ _ (aR s (z*64+y*8+x+1)).length (ceS (aR s (z*64+y*8+x+1)));rw[hst];exact ow5
    |true=>
     rw[hb,if_pos rfl]at hst;refine Y5 ?_;refine aB (iy (by exact rfl) (by exact rfl)) ?_;refine sC (lo:=h.next+1) (sz:=3) (v:=v) (c1:=ceL ce) (ow5.ext ((Ext.refl H4).push _)) (by omega) (by omega) (by omega) (by show h.next+1<=H4.next+1;omega) (by omega) (by exact rfl) (by exact rfl) (fF (cs:=ceL ce) YG rfl rfl) rfl rfl ?_;intro v' h5 o5 x5;have ey5:Lx (h.next+1) H4 h5:=((Lx.refl (h.next+1) H4).push (by omega) _).trans x5;have n5:=ey5.next
     refine yM ?_;refine cN ?_;refine Y8 ?_;refine⟨8-(x+1),by omega,x+1,v',by omega,rfl,rfl,rfl,⟨Nat.le_trans ey0'.next n5,ey5.log.trans ey0'.log,λb hb=>(ey5.old b (by omega)).trans (ey0'.old b hb),λw=>ey5.wf (ey0'.wf w)⟩,by omega,(ey5.old _ (by omega)).trans g5,?_⟩;show Own _ _ _ _ (aR s (z*64+y*8+x+1)).length (ceS (aR s (z*64+y*8+x+1)));rw[hst,List.length_append,LV];have e:ceS [ce]=ceL ce:=by simp[ceS]
     rw[e];exact o5
   ·obtain rfl:x=8:=by omega
    refine Y17 ?_;refine⟨8-(y+1),by omega,y+1,v,by omega,rfl,rfl,rfl,?_⟩;rw[show z*64+(y+1)*8=z*64+y*8+8 by omega];exact j3
  ·obtain rfl:y=8:=by omega
   refine Y17 ?_;refine⟨8-(z+1),by omega,z+1,v,by omega,rfl,rfl,rfl,?_⟩;rw[show(z+1)*64=z*64+8*8 by omega];exact j2
 ·obtain rfl:z=8:=by omega
  obtain⟨x1,n1,g1,ow⟩:=j1;refine Y16 ?_;exact cK (x1.log.trans hr.log) rfl (ow.low (Nat.le_succ _))
end Go.A.Pk
end
section
namespace Go.A.Pk
def qx(s:List Nat)(z:Nat):List Ce:=(bitsOf (s.getD z 0)).map (dY z)
theorem zn{z i:Nat}(hi:i<64):ceN (z*64+i)=dY z i:=by
 unfold ceN dY;rw[show(z*64+i) % 8=i % 8 by omega,show(z*64+i) / 8 % 8=i / 8 by omega,show(z*64+i) / 64=z by omega]
theorem mh(s:List Nat){z:Nat}(hz:z<8):aR s ((z+1)*64)=aR s (z*64)++qx s z:=by
 unfold aR qx bitsOf;rw[show(z+1)*64=z*64+64 by omega,List.range_add,List.map_append,List.filter_append];congr 1;rw[List.map_map,List.filter_map];have e1:(List.range 64).filter (dN s ∘ (ceN ∘ λx=>z*64+x))=(List.range 64).filter (Nat.testBit (s.getD z 0)):=by
  apply List.filter_congr;intro i hi;have hi:=List.mem_range.1 hi;show dN s (ceN (z*64+i))=_;rw[zn hi,eS hz hi]
 rw[e1];apply List.map_congr_left;intro i hi;have hi:=List.mem_range.1 (List.mem_filter.1 hi).1;exact zn hi
theorem va{f:Nat->Nat->Nat}{a b:List Nat}(ha:IsS a)(hb:IsS b){z:Nat}(hz:z<8):(List.zipWith f a b).getD z 0=f (a.getD z 0) (b.getD z 0):=by
 have e1:=jP (s:=a) (i:=z) (by rw[ha.len];exact hz);have e2:=jP (s:=b) (i:=z) (by rw[hb.len];exact hz);rw[List.getD_eq_getElem?_getD,List.getElem?_zipWith,e1,e2];rfl
theorem fJ{s:List Nat}{c:Ce}(hc:¬inG c=true):dN s c=false:=by
 unfold dN;rw[Bool.not_eq_true]at hc;rw[hc];rfl
theorem sL{a b:List Nat}(ha:IsS a)(hb:IsS b)(c:Ce):dN (fH a b) c=(dN a c||dN b c):=by
 by_cases hc:inG c=true
 ·obtain⟨z,i,hz,hi,rfl⟩:=gP hc;rw[eS hz hi,eS hz hi,eS hz hi];unfold fH qd;rw[va ha hb hz];exact Nat.testBit_or ..
 ·rw[fJ hc,fJ hc,fJ hc];rfl
theorem yK{a b:List Nat}(ha:IsS a)(hb:IsS b)(c:Ce):dN (dU a b) c=(dN a c&& !dN b c):=by
 by_cases hc:inG c=true
 ·obtain⟨z,i,hz,hi,rfl⟩:=gP hc;rw[eS hz hi,eS hz hi,eS hz hi];unfold dU qd;rw[va ha hb hz];simp only[sI];show Nat.testBit (a.getD z 0 ^^^ (a.getD z 0&&&b.getD z 0)) i=_;rw[Nat.testBit_xor,Nat.testBit_and];cases (a.getD z 0).testBit i<;>cases (b.getD z 0).testBit i<;>rfl
 ·rw[fJ hc,fJ hc];rfl
theorem lQ(c:Ce):dN s0 c=false:=by
 by_cases hc:inG c=true
 ·obtain⟨z,i,hz,hi,rfl⟩:=gP hc;rw[eS hz hi];have:∀z:Fin 8,s0.getD z.val 0=0:=by decide
  rw[this ⟨z,hz⟩];exact Nat.zero_testBit i
 ·exact fJ hc
theorem Gt{s:List Nat}{n:Nat}{c:Ce}(h:c∈aR s n):dN s c=true:=(List.mem_filter.1 h).2
structure Dou where
 c:Ce
 ids:List Int
 is:Bool
 e:Int
def c0:Ce:=⟨0,0,0⟩
end Go.A.Pk
end
section
namespace Go.A.Pk
variable {T:Nat->Option af}
section
open I
end
theorem WE.J2{base:Nat}{rnd:Option Nat}{c:bh}{Q:XQ}{e:Env}{ds:Dfs}{h:Heap}(hK:∀hA,hA=h->WE T base rnd c Q e ds hA):WE T base rnd c Q e ds h:=hK h rfl
theorem xN(s:List Nat){n:Nat}:∀m,∃r,aR s (n+m)=aR s n++r
 |0=>⟨[],by simp⟩
 |m+1=>by
  obtain⟨r,e⟩:=xN s (n:=n) m;exact⟨r++(if dN s (ceN (n+m))then [ceN (n+m)]else []),by rw[←Nat.add_assoc,se,e,List.append_assoc]⟩
structure DH (T:Nat->Option af):Prop where
 p:aP T
 f123:T 123=some f123
 f213:T 213=some f213
 f214:T 214=some f214
 f264:T 264=some f264
 f265:T 265=some f265
 f266:T 266=some f266
structure PCe (l q:Nat) (H0:Heap) (L:bN) (done:List Ce) (H:Heap):Prop where
 old:∀z,z<q->H.get z=H0.get z
 loop:H.get l=some L
 nx:l<H.next
 val:∃v,H.get q=some (.cells [v] true 1)/\Own (l+1) H 3 v done.length (ceS done)
def fnC(q0:Nat):Value:= .func (.func 265) #[] #[.pointer (some ⟨q0,0,none⟩)]
theorem A8(F:DH T){h:Heap}(hr:Rdy h){s:List Nat}(hs:IsS s):
 Al T 214 [sv s] h λv h'=>∃q,v=fnC q/\h'.get q=some (.cells (us s) true 1)/\h.next<=q/\q<h'.next:=by
 refine .of F.p F.f214 hr ?_ ?_
 ·rintro v h1 hv ⟨q,rfl,_⟩;cases hv
 refine Y9 ?_;exact cK hr.log rfl ⟨h.next,rfl,z3 _ _,Nat.le_refl _,Nat.lt_succ_self _⟩
theorem yh(F:DH T){h:Heap}(hr:Rdy h){q0 l N lo:Nat}{s:List Nat}(hs:IsS s){P:List Ce->Heap->Prop}{S:Heap->Prop}(hN:N<=h.next)(hlo:lo<=h.next)(hlN:l<N)(Y:Je T lo N l ceV (aR s 512) P S)
 (g0:h.get q0=some (.cells (us s) true 1))(htab:∀d H,P d H->Tab H)(h0:P [] h):
 GrX T 265 [.func (.yield l) #[] #[], .pointer (some ⟨q0,0,none⟩)] h lo (P (aR s 512)) S:=by
 have hlb:l<h.next:=by omega
 have hp:=F.p;have k8:=aG hs.len;have k9:=aN hs.len;refine GrX.of (l:=l) hp F.f265 hlo hlb (λh1 h2 hn ha q=>Y.gZ _ _ _ q (Nat.le_trans hN hn) λx hx=>ha x (by omega)) Y.NQ ?_;refine Y5 ?_
 refine bD (λk e ds h'=>∃z:Nat,z<=8/\8-z=k/\e=[(0, .func (.yield l) #[] #[]),(6,sv s),(7, .int .i64 (z:Nat))]/\ds=[]/\Lk lo h h'∧P (aR s (z*64)) h')
  ⟨0,by omega,rfl,rfl,rfl, .refl _ _,h0⟩ ?_
 rintro k e ds h' ⟨z,hz8,rfl,rfl,rfl,hk,hP⟩;by_cases hz:z<8
 ·have e1:bP (us s).toArray.toList (z*1)=some (.int .u64 ((s.getD z 0:Nat):Int)):=by
   rw[List.toList_toArray,Nat.mul_one,cF];unfold us;rw[List.getElem?_map,jP (by rw[hs.len];exact hz)];rfl
  have hx0:=hs.jL z;obtain⟨rest,hrest⟩:∃r,aR s 512=aR s (z*64)++qx s z++r:=by
   obtain⟨r,e⟩:=xN s (n:=(z+1)*64) (512-(z+1)*64);rw[show(z+1)*64+(512-(z+1)*64)=512 by omega,mh s hz]at e;exact⟨r,e⟩
  have hplane:=mh s hz;have hpl:qx s z=(bitsOf (s.getD z 0)).map (dY z):=rfl;generalize hx:s.getD z 0=x0 at*;generalize qx s z=pl at*;refine Y11 ?_;refine aB (Jt (by exact rfl) (by exact rfl) (by omega) (by assumption)) ?_;refine Y4 ?_
  refine bD (λk e ds h''=>∃(x:Nat) (d:List Ce),x<U64/\d++(bitsOf x).map (dY z)=pl/\(bitsOf x).length=k/\e=[(0, .func (.yield l) #[] #[]),(3, .int .i64 (z:Nat)),(4, .int .u64 (x:Nat)),(6,sv s),(7, .int .i64 (z:Nat))]/\ds=[]/\Lk lo h h''∧P (aR s (z*64)++d) h'')
   ⟨x0,[],hx0,by rw[hpl];rfl,rfl,rfl,rfl,hk,by rw[List.append_nil];exact hP⟩ ?_
  clear hP hk h';rintro k e ds h' ⟨x,d,hxl,hd,rfl,rfl,rfl,hk,hP⟩;by_cases hx:x=0
  ·subst hx;rw[Bd]at hd;have hd:d=pl:=by simpa using hd
   subst hd;rw[←hplane]at hP;refine Y16 ?_;exact⟨8-(z+1),by omega,z+1,by omega,rfl,rfl,rfl,hk,hP⟩
  ·obtain⟨b,m,hform⟩:=Ca x hx;have hb64:=(Az hform hxl).1;have hstep:=AK hform hxl;have m1:ah .neq (.int .u64 (x:Nat)) (.int .u64 0)=some (.bool true):=j6 (by omega);have C:=Sn F.p F.f266 (h:={h' with log:=[]}) (.of (hk.wf hr.wf)) (show Tab h' from htab _ _ hP) hxl hform;have m2:ah .rem (.int .i64 (b:Nat)) (.int .i64 8)=some (.int .i64 ((b % 8:Nat):Int)):=OB;have m3:ah .quo (.int .i64 (b:Nat)) (.int .i64 8)=some (.int .i64 ((b / 8:Nat):Int)):=P3 (by omega);have m4:ah .sub (.int .u64 (x:Nat)) (.int .u64 1)=some (.int .u64 ((x-1:Nat):Int)):=lP (by rw[show(x:Int)-1=((x-1:Nat):Int)by omega];exact mO (by unfold U64 at hxl;omega));have m5:=rG (a:=x) (b:=x-1) hxl (Nat.lt_of_le_of_lt (Nat.sub_le x 1) hxl);rw[hstep]at hd⊢;have hlt:Nat.land x (x-1)<U64:=AG hxl;generalize Nat.land x (x-1)=x' at*;rw[List.map_cons]at hd;have hsp:aR s 512=(aR s (z*64)++d)++dY z b::((bitsOf x').map (dY z)++rest):=by
    rw[hrest,←hd];simp
   refine Y13 ?_;refine FW.pu C ?_;clear C;refine Y10 ?_;refine pY (fn:= .yield l) (args:=[ceV (dY z b)]) (by rfl) ?_;refine Y.call hp (by rw[hsp];simp) (hk.wf hr.wf) (Nat.le_trans hlo hk.next) (Nat.le_trans hN hk.next) hlb hP ?_ ?_
   rotate_left
   ·intro h9 hk9 hm9 hS9;refine Y12 ?_;exact Hf ((hk.trans hk9).log (by rw[hr.log];exact eG.nil _)) rfl hm9 hS9
   intro h2 hk2 _ hP2;refine Y13 ?_;exact⟨(bitsOf x').length,by simp,x',d++[dY z b],hlt,by rw[←hd];simp,rfl,rfl,rfl,hk.trans hk2,by rw[←List.append_assoc];exact hP2⟩
 ·obtain rfl:z=8:=by omega
  refine Y9 ?_;exact Kb (hk.log (by rw[hr.log];exact eG.nil _)) rfl hP
end Go.A.Pk
end
section
namespace Go.A.Pk
variable {T:Nat->Option af}
structure Bx where
 lo:Ce
 hi:Ce
 deriving DecidableEq
def bxL(b:Bx):List Value:=ceL b.lo++ceL b.hi
def bxV(b:Bx):Value:= .agg (bxL b).toArray
def nW(b:Bx)(c:Ce):Bx:=⟨⟨mi b.lo.x c.x,mi b.lo.y c.y,mi b.lo.z c.z⟩,⟨mx b.hi.x c.x,mx b.hi.y c.y,mx b.hi.z c.z⟩⟩
def bx0:Bx:=⟨⟨7,7,7⟩,⟨0,0,0⟩⟩
def bxS(l:List Ce):Bx:=l.foldl nW bx0
theorem Is(l:List Ce)(c:Ce):bxS (l++[c])=nW (bxS l) c:=by unfold bxS;rw[List.foldl_append];rfl
section
open I
def wz:bh:=I.R [g 5 (.new [O,O,O]),S 3 5 16] [4,5]
def wR:bh:=(.block 1 (Q (I.R [A 17 0 4,A 18 3 4,M 6 17,M 7 18] [5,6,7]) (Q (.draw [M 19 6,M 20 6,M 21 6,M 22 6,g 23 (.cm (t 22)),A 24 0 23,L 25 24,A 26 0 5,L 27 26,g 28 (.dK false [(t 25),(t 27)]),M 29 6,g 30 (.cm (t 29)),A 31 1 30,L 32 31,A 33 1 5,L 34 33,g 35 (.dK false [(t 32),(t 34)]),M 36 6,g 37 (.cm (t 36)),A 38 2 37,L 39 38,A 40 2 5,L 41 40,g 42 (.dK false [(t 39),(t 41)]),g 43 (.cm (t 19)),A 44 0 43,S 1 44 28,g 45 (.cm (t 20)),A 46 1 45,S 1 46 35,g 47 (.cm (t 21)),A 48 2 47,S 1 48 42] [0,1,2,3,4,5,6,7,8,9,10,11,12,13,14,15,16,17,18,19,20,21,22,23,24,25,26,27,28,29,30,31,32] [0,0,0,0,8,24,56,0,128,504,0,1024,3072,7168,0,16384,64512,0,131072,393216,917504,0,2097152,8257536,1982457,18759673,52314105,119537659,253755387,522190843,1073741823,2147483647,4294967295] [5,7])
 (.draw [M 49 7,M 50 7,M 51 7,M 52 7,g 53 (.cm (t 52)),A 54 0 53,L 55 54,A 56 0 5,L 57 56,g 58 (.dK true [(t 55),(t 57)]),M 59 7,g 60 (.cm (t 59)),A 61 1 60,L 62 61,A 63 1 5,L 64 63,g 65 (.dK true [(t 62),(t 64)]),M 66 7,g 67 (.cm (t 66)),A 68 2 67,L 69 68,A 70 2 5,L 71 70,g 72 (.dK true [(t 69),(t 71)]),g 73 (.cm (t 49)),A 74 0 73,S 1 74 58,g 75 (.cm (t 50)),A 76 1 75,S 1 76 65,g 77 (.cm (t 51)),A 78 2 77,S 1 78 72] [0,1,2,3,4,5,6,7,8,9,10,11,12,13,14,15,16,17,18,19,20,21,22,23,24,25,26,27,28,29,30,31,32] [0,0,0,0,8,24,56,0,128,504,0,1024,3072,7168,0,16384,64512,0,131072,393216,917504,0,2097152,8257536,1982457,18759673,52314105,119537659,253755387,522190843,1073741823,2147483647,4294967295] []))))
end
theorem Iz(hp:aP T){H:Heap}(hr:Rdy H){q l lo N:Nat}{fv fv2:Value}{b:Bx}{c:Ce}(hlo:lo<=q)(hql:q<l)(hlN:l<N)
 (gl:H.get l=some (.loop [(2,fv2),(4, .pointer (some ⟨q,0,none⟩)),(15,fv)] [16] wz wR 0 .normal))
 (go:H.get q=some (.cells (bxL b) true 1)){S:Heap->Prop}:
 FW T (.yield l) [ceV c] H λr H'=>(∀z∈H'.log,lo<=z/\z<N)/\(r= .ret (.bool true)/\(H'.get q=some (.cells (bxL (nW b c)) true 1)/\(∀z,z<H.next->z≠q->H'.get z=H.get z)/\H.next<=H'.next)∨r= .ret (.bool false)/\l∈H'.log/\S H'):=by
 have no:q≠l:=by omega
 have ko:=hr.wf.hM go;have kl:=hr.wf.hM gl;refine FW.JM hp (R:=λH'=>H'.get q=some (.cells (bxL (nW b c)) true 1)/\(∀z,z<H.next->z≠q->H'.get z=H.get z)/\H.next<=H'.next) gl rfl kl ⟨by omega,hlN⟩ ?_;unfold wz;refine Y3 ?_;refine cN ?_;refine y1 ?_;refine⟨rfl,YG,?_⟩;unfold wR;refine pg ?_;refine WE.J2 ?_;intro hA hAe;have A1:∀z,z<H.next->z≠l->H.get z=hA.get z:=λz hz hne=>by rw[hAe];symm;simp(disch:=first|omega|(simp only[z1,z2];omega))only[z5,z4]
 have A3:hA.get H.next=some (.cells (ceL c) true 1):=by rw[hAe];(simp(disch:=first|omega|(simp only[z1,z2];omega))only[z3,z4,z5,z6,z7,z1,z2,gl,go];exact rfl)
 have A2:hA.get l=some (.loop [(2,fv2),(4, .pointer (some ⟨q,0,none⟩)),(15,fv)] [16] wz wR 1 .normal):=by rw[hAe];(simp(disch:=first|omega|(simp only[z1,z2];omega))only[z3,z4,z5,z6,z7,z1,z2,gl,go,A3];exact rfl)
 have A5:hA.next=H.next+1:=by rw[hAe];rfl
 have A6:hA.log=[]:=by rw[hAe];simp(disch:=first|omega|(simp only[z1,z2];omega))only[Heap.aq,Heap.vl];exact hr.log
 have A7:WF hA:=by rw[hAe];exact(((hr.wf.push _).as (AS.wr _ _ _ _)).as (AS.wr _ _ _ _))
 clear hAe;have Bo:=(A1 q ko no).symm.trans go;obtain⟨⟨x1,y1',z1'⟩,⟨x2,y2',z2'⟩⟩:=b;obtain⟨cx,cy,cz⟩:=c;unfold bxL ceL at Bo;dsimp only[List.cons_append,List.nil_append]at Bo;unfold ceL at A3;dsimp only at A3;clear go;refine Y17 ?_;refine aU rfl rfl rfl (by exact rfl) (by exact rfl) (by exact rfl) (nj (by exact rfl) (by exact rfl)) ?_;refine Y6 ?_;refine aU rfl rfl rfl (by exact rfl) (by exact rfl) (by exact rfl) (nj (by exact rfl) (by exact rfl)) ?_;refine Y6 ?_;refine aU rfl rfl rfl (by exact rfl) (by exact rfl) (by exact rfl) (nj (by exact rfl) (by exact rfl)) ?_;refine Y2 ?_;refine gY (vs:=[.int .i64 x1, .int .i64 y1', .int .i64 z1', .int .i64 x2, .int .i64 y2', .int .i64 z2']) (ws:=[.int .i64 (mi x1 cx), .int .i64 y1', .int .i64 z1', .int .i64 x2, .int .i64 y2', .int .i64 z2']) rfl rfl rfl (by exact rfl) (by exact rfl) (by exact rfl) (Bo) (by exact rfl) (by exact rfl) (by show q<hA.next;omega) (by(repeat apply aI rfl);apply aM rfl (aC rfl (nj (by exact rfl) (by exact rfl)) (by exact gJ _ _)) rfl;apply aM rfl (aC rfl (eT (by exact rfl) YG (by exact rfl)) (by exact gJ _ _)) rfl;apply aM rfl (aC rfl (ef (by exact rfl)) (by exact cW _)) rfl;(repeat apply aI rfl);apply aM rfl (aC rfl (nj (by exact rfl) (by exact rfl)) (by exact gJ _ _)) rfl;apply aM rfl (aC rfl (eT (by exact rfl) YG (by exact rfl)) (by exact gJ _ _)) rfl;apply aM rfl (aC rfl (ef (by exact rfl)) (by exact cW _)) rfl;(repeat apply aI rfl);apply aM rfl (aC rfl (fR (by exact rfl)) (by exact cW _)) rfl;apply aM rfl (aC rfl (fR (by exact rfl)) (by exact cW _)) rfl;apply aI rfl;exact bg) ?_;refine Y2 ?_;refine gY (vs:=[.int .i64 (mi x1 cx), .int .i64 y1', .int .i64 z1', .int .i64 x2, .int .i64 y2', .int .i64 z2']) (ws:=[.int .i64 (mi x1 cx), .int .i64 (mi y1' cy), .int .i64 z1', .int .i64 x2, .int .i64 y2', .int .i64 z2']) rfl rfl rfl (by exact rfl) (by exact rfl) (by exact rfl) (Heap.bC (Bo)) (by exact rfl) (by exact rfl) (by show q<hA.next;omega) (by(repeat apply aI rfl);apply aM rfl (aC rfl (nj (by exact rfl) (by exact rfl)) (by exact gJ _ _)) rfl;apply aM rfl (aC rfl (eT (by exact rfl) YG (by exact rfl)) (by exact gJ _ _)) rfl;apply aM rfl (aC rfl (ef (by exact rfl)) (by exact cW _)) rfl;(repeat apply aI rfl);apply aM rfl (aC rfl (fR (by exact rfl)) (by exact cW _)) rfl;apply aI rfl;exact bg) ?_;refine Y2 ?_;refine gY (vs:=[.int .i64 (mi x1 cx), .int .i64 (mi y1' cy), .int .i64 z1', .int .i64 x2, .int .i64 y2', .int .i64 z2']) (ws:=[.int .i64 (mi x1 cx), .int .i64 (mi y1' cy), .int .i64 (mi z1' cz), .int .i64 x2, .int .i64 y2', .int .i64 z2']) rfl rfl rfl (by exact rfl) (by exact rfl) (by exact rfl) (Heap.bC (Heap.bC (Bo))) (by exact rfl) (by exact rfl) (by show q<hA.next;omega) (by(repeat apply aI rfl);exact bg) ?_;refine Y13 ?_;refine aU rfl rfl rfl (by exact rfl) (by exact rfl) (by exact rfl) (rV (by exact rfl) (by exact rfl)) ?_;refine Y6 ?_;refine aU rfl rfl rfl (by exact rfl) (by exact rfl) (by exact rfl) (rV (by exact rfl) (by exact rfl)) ?_;refine Y6 ?_;refine aU rfl rfl rfl (by exact rfl) (by exact rfl) (by exact rfl) (rV (by exact rfl) (by exact rfl)) ?_;refine Y2 ?_;refine gY (vs:=[.int .i64 (mi x1 cx), .int .i64 (mi y1' cy), .int .i64 (mi z1' cz), .int .i64 x2, .int .i64 y2', .int .i64 z2']) (ws:=[.int .i64 (mi x1 cx), .int .i64 (mi y1' cy), .int .i64 (mi z1' cz), .int .i64 (mx x2 cx), .int .i64 y2', .int .i64 z2']) rfl rfl rfl (by exact rfl) (by exact rfl) (by exact rfl) (Heap.bC (Heap.bC (Heap.bC (Bo)))) (by exact rfl) (by exact rfl) (by show q<hA.next;omega) (by(repeat apply aI rfl);apply aM rfl (aC rfl (rV (by exact rfl) (by exact rfl)) (by exact gJ _ _)) rfl;apply aM rfl (aC rfl (eT (by exact rfl) YG (by exact rfl)) (by exact gJ _ _)) rfl;apply aM rfl (aC rfl (ef (by exact rfl)) (by exact cW _)) rfl;(repeat apply aI rfl);apply aM rfl (aC rfl (rV (by exact rfl) (by exact rfl)) (by exact gJ _ _)) rfl;apply aM rfl (aC rfl (eT (by exact rfl) YG (by exact rfl)) (by exact gJ _ _)) rfl;apply aM rfl (aC rfl (ef (by exact rfl)) (by exact cW _)) rfl;(repeat apply aI rfl);apply aM rfl (aC rfl (fR (by exact rfl)) (by exact cW _)) rfl;apply aM rfl (aC rfl (fR (by exact rfl)) (by exact cW _)) rfl;apply aI rfl;exact bg) ?_;refine Y2 ?_;refine gY (vs:=[.int .i64 (mi x1 cx), .int .i64 (mi y1' cy), .int .i64 (mi z1' cz), .int .i64 (mx x2 cx), .int .i64 y2', .int .i64 z2']) (ws:=[.int .i64 (mi x1 cx), .int .i64 (mi y1' cy), .int .i64 (mi z1' cz), .int .i64 (mx x2 cx), .int .i64 (mx y2' cy), .int .i64 z2']) rfl rfl rfl (by exact rfl) (by exact rfl) (by exact rfl) (Heap.bC (Heap.bC (Heap.bC (Heap.bC (Bo))))) (by exact rfl) (by exact rfl) (by show q<hA.next;omega) (by(repeat apply aI rfl);apply aM rfl (aC rfl (rV (by exact rfl) (by exact rfl)) (by exact gJ _ _)) rfl;apply aM rfl (aC rfl (eT (by exact rfl) YG (by exact rfl)) (by exact gJ _ _)) rfl;apply aM rfl (aC rfl (ef (by exact rfl)) (by exact cW _)) rfl;(repeat apply aI rfl);apply aM rfl (aC rfl (fR (by exact rfl)) (by exact cW _)) rfl;apply aI rfl;exact bg) ?_;refine Y2 ?_;refine gY (vs:=[.int .i64 (mi x1 cx), .int .i64 (mi y1' cy), .int .i64 (mi z1' cz), .int .i64 (mx x2 cx), .int .i64 (mx y2' cy), .int .i64 z2']) (ws:=[.int .i64 (mi x1 cx), .int .i64 (mi y1' cy), .int .i64 (mi z1' cz), .int .i64 (mx x2 cx), .int .i64 (mx y2' cy), .int .i64 (mx z2' cz)]) rfl rfl rfl (by exact rfl) (by exact rfl) (by exact rfl) (Heap.bC (Heap.bC (Heap.bC (Heap.bC (Heap.bC (Bo)))))) (by exact rfl) (by exact rfl) (by show q<hA.next;omega) (by(repeat apply aI rfl);exact bg) ?_;refine Y3 ?_;refine⟨⟨_,YG,rfl⟩,λz hz=> ?_, .inl ⟨rfl,λh5 hn h5e h5l=> ?_⟩⟩
 ·have key:z=q:=by
   rcases fu hz with h|hz
   ·exact h
   rcases fu hz with h|hz
   ·exact h
   rcases fu hz with h|hz
   ·exact h
   rcases fu hz with h|hz
   ·exact h
   rcases fu hz with h|hz
   ·exact h
   rcases fu hz with h|hz
   ·exact h
   rw[A6]at hz;cases hz
  subst key;exact⟨hlo,by omega⟩
 ·refine⟨(h5e q ko no).trans (Heap.bC (Heap.bC (Heap.bC (Heap.bC (Heap.bC (Heap.bC (Bo))))))),λz hz hne=> ?_,hn⟩;by_cases hl:z=l
  ·subst hl;rw[gl];exact h5l
  ·refine(h5e z hz hl).trans ?_;refine Eq.trans ?_ (A1 z hz hl).symm;simp only[z5 hne]
structure PXo (l q:Nat) (H0:Heap) (L:bN) (f:List Ce->List Value) (done:List Ce) (H:Heap):Prop where
 old:∀z,z<l->z≠q->H.get z=H0.get z
 loop:H.get l=some L
 val:H.get q=some (.cells (f done) true 1)
theorem PXo.gZ{l q:Nat}{H0:Heap}{L:bN}{f:List Ce->List Value}(hq:q<l)(done:List Ce)(H H':Heap)(p:PXo l q H0 L f done H)(_:l+1<=H'.next)(h:∀x,x<l+1->H'.get x=H.get x):PXo l q H0 L f done H':=
 ⟨λz hz hne=>(h z (by omega)).trans (p.old z hz hne),(h l (by omega)).trans p.loop,(h q (by omega)).trans p.val⟩
def bL(s:List Nat):Bx×Bool:=if s=s0 then(⟨c0,c0⟩,false)else(bxS (aR s 512),true)
def Ff(p:Bx×Bool):Value:= .tuple #[bxV p.1, .bool p.2]
structure Nu (T:Nat->Option af):Prop where
 cp:DH T
 f210:T 210=some f210
theorem xh(F:Nu T){h:Heap}(hr:Rdy h)(hg:Tab h)(h2:2<h.next){s:List Nat}(hs:IsS s):Pu T 210 [sv s] h (Ff (bL s)):=by
 have hp:=F.cp.p;refine .of hp F.f210 hr rfl ?_;have k8:=aG hs.len;have k9:=aN hs.len;have x0:Ext h ((h.push (.cells (cellsOf (sv s)) true 1)).push (.cells [I.O,I.O,I.O,I.O,I.O,I.O] true 1)):=((Ext.refl h).push _).push _;have g0:((h.push (.cells (cellsOf (sv s)) true 1)).push (.cells [I.O,I.O,I.O,I.O,I.O,I.O] true 1)).get h.next=some (.cells (us s) true 1):=(z4 (Nat.lt_succ_self _)).trans (z3 h _)
 have g1:((h.push (.cells (cellsOf (sv s)) true 1)).push (.cells [I.O,I.O,I.O,I.O,I.O,I.O] true 1)).get (h.next+1)=some (.cells [I.O,I.O,I.O,I.O,I.O,I.O] true 1):=z3 _ _;have n0:((h.push (.cells (cellsOf (sv s)) true 1)).push (.cells [I.O,I.O,I.O,I.O,I.O,I.O] true 1)).next=h.next+2:=rfl
 refine Y5 ?_;generalize((h.push (.cells (cellsOf (sv s)) true 1)).push (.cells [I.O,I.O,I.O,I.O,I.O,I.O] true 1))=H at*;have W:=x0.wf hr.wf;have hL:=x0.log.trans hr.log;unfold bL;by_cases he:s=s0
 ·rw[if_pos he];have ck0:bK 6 (bE 0 (bxL ⟨c0,c0⟩))=bxL ⟨c0,c0⟩:=rfl;refine Y4 ?_;refine aB (iI (b:=s0) (by exact rfl) (by exact rfl) hs.len rfl) ?_;rw[decide_eq_true he];refine Y9 ?_;refine an ?_ (aX (own:=true) (s:=1) (l:=bxL ⟨c0,c0⟩) rfl ?_ ck0 rfl rfl) rfl
  ·rw[Heap.aq (by show h.next<=h.next+1;omega)];exact hL
  ·exact YG
 ·rw[if_neg he];have x1:=dO (h:=H) (base:=h.next) (by omega) (.cells [I.O,I.O,I.O,I.O,I.O,I.O] true 1) (.cells (bxL bx0) true 1);have q1:=fC (h:=H) (base:=h.next) [I.O,I.O,I.O,I.O,I.O,I.O] (bxL bx0);refine Y4 ?_;refine aB (iI (b:=s0) (by exact rfl) (by exact rfl) hs.len rfl) ?_;rw[decide_eq_false he];refine Y4 ?_;refine dI (E0:=[(1, .pointer (some ⟨h.next,0,none⟩)),(2, .pointer (some ⟨h.next+1,0,none⟩)),(4, .pointer (some ⟨H.next,0,none⟩))]) (P:=λh'=>Ext H h'∧h'.next=H.next+1/\h'.get H.next=some (.cells (bxL bx0) true 1)) ?_ ?_
  ·refine Y5 ?_;refine cN ?_;refine y1 ?_;exact⟨rfl,rfl,rfl,dO (by omega) _ _,rfl,fC _ _⟩
  rintro H1 ⟨x1,n1,q1⟩;have ey1':=x0.trans x1;have W1:=ey1'.wf hr.wf;have hL1:=ey1'.log.trans hr.log;have ga:=(x1.old _ (by omega)).trans g0;have gb:=(x1.old _ (by omega)).trans g1;have C:=A8 F.cp (h:={H1 with log:=[]}) (.of W1) hs;clear g0 g1;refine Y4 ?_;refine FW.al C (λv h' m q=>q) ?_;rintro _ H2 x2 ⟨q,rfl,gq,q2,q3⟩;clear C;have q2:H1.next<=q:=q2
  have ey2':=ey1'.trans x2;have W2:=ey2'.wf hr.wf;have hL2:=ey2'.log.trans hr.log;have n2:=x2.next
  have gb2:=(x2.old _ (by omega)).trans gb;have q12:=(x2.old _ (by omega)).trans q1;have hg2:Tab H2:=hg.ext ey2' h2;clear ga gb q1;refine Y2 ?_;refine xw (lo:=H.next) (P:=PXo H2.next H.next H2 (.loop [(2, .pointer (some ⟨h.next+1,0,none⟩)),(4, .pointer (some ⟨H.next,0,none⟩)),(15,fnC q)] [16] wz wR 0 .normal) (λd=>bxL (bxS d)) (aR s 512)) (S:=λ_=>False) rfl (by rfl) (by rw[F.cp.f265];rfl) (by omega) (by omega) hL2 W2 ?_ (λH p=>⟨_,_,_,_,p.loop⟩) (λH p=>p.elim) ?_ (λ_ _ _ _ _ _ _ p=>p.elim)
  ·have Y:Je T H.next (H2.next+1) H2.next ceV (aR s 512) (PXo H2.next H.next H2 (.loop [(2, .pointer (some ⟨h.next+1,0,none⟩)),(4, .pointer (some ⟨H.next,0,none⟩)),(15,fnC q)] [16] wz wR 0 .normal) (λd=>bxL (bxS d))) (λ_=>False):=by
    refine⟨λdone x Hh hx hrH hN hP=> ?_,PXo.gZ (by omega),λ_ _ h=>h,λ_ h=>h.elim⟩;refine FW.mono' (Iz hp hrH (lo:=H.next) (N:=H2.next+1) (S:=λ_=>False) (Nat.le_refl _) (by omega) (by omega) hP.loop hP.val) ?_;rintro r' H' ⟨r1,r2⟩;refine⟨r1,r2.imp (λ⟨e,g,o,_⟩=>⟨e,λz hz hne=>(o z (by omega) hne).trans (hP.old z hz hne),(o _ (by omega) (by omega)).trans hP.loop,?_⟩) id⟩;rw[Is];exact g
   exact yh F.cp (.of (W2.push _)) (q0:=q) (l:=H2.next) (N:=H2.next+1) (lo:=H.next) hs (Nat.le_refl _) (by show H.next<=H2.next+1;omega) (Nat.lt_succ_self _) Y ((z4 (by omega)).trans gq) (λd H' hP=>(hP.old 2 (by omega) (by omega)).trans hg2)
    ⟨λz hz _=>z4 hz,z3 _ _,(z4 (by omega)).trans q12⟩
  intro h4 h5 k1 k2 k3 k4 k5 hP;have D:=(k5 H.next (by omega)).trans hP.val;have D2:=(k5 (h.next+1) (by omega)).trans ((hP.old _ (by omega) (by omega)).trans gb2);generalize bxS (aR s 512)=b at*;have ck:bK 6 (bE 0 (bxL b))=bxL b:=rfl;have ckl:Nat.beq (bO (bxL b)) 6=true:=rfl;refine Y8 ?_;refine an ?_ (aX (own:=true) (s:=1) (l:=bxL b) rfl ?_ ck ckl rfl) rfl
  ·rw[Heap.aq (by show h.next<=h.next+1;omega)];exact k1
  ·exact YG
def dH:Nat->Ce->Ce
 |0,c=>c
 |1,c=>⟨c.x,7-c.z,c.y⟩
 |2,c=>⟨c.x,7-c.y,7-c.z⟩
 |3,c=>⟨c.x,c.z,7-c.y⟩
 |4,c=>⟨c.z,c.y,7-c.x⟩
 |_,c=>⟨7-c.z,c.y,c.x⟩
def Cq(c:Ce):Ce:=⟨7-c.y,c.x,c.z⟩
def nC:Nat->Ce->Ce
 |0,c=>c
 |n+1,c=>Cq (nC n c)
def fB(t:Nat)(c:Ce):Ce:=nC (t % 4) (dH (t / 4) c)
structure InB (c:Ce):Prop where
 x:0<=c.x/\c.x<=7
 y:0<=c.y/\c.y<=7
 z:0<=c.z/\c.z<=7
theorem jK{c:Ce}:inG c=true↔InB c:=by
 unfold inG;rw[decide_eq_true_eq];exact⟨λh=>⟨h.1,h.2.1,h.2.2⟩,λh=>⟨h.x,h.y,h.z⟩⟩
theorem InB.OY{c:Ce}(h:InB c)(k:Nat):InB (dH k c):=by
 obtain⟨h1,h2,h3⟩:=h;unfold dH;split<;>(constructor<;>(first|omega|(dsimp only;omega)))
theorem InB.rot{c:Ce}(h:InB c):∀n,InB (nC n c)
 |0=>h
 |n+1=>by
  obtain⟨h1,h2,h3⟩:=h.rot n;unfold nC Cq;exact⟨by dsimp only;omega,h1,h3⟩
theorem InB.Ul{c:Ce}(h:InB c)(t:Nat):InB (fB t c):=(h.OY _).rot _
theorem dg{a:Int}(h:0<=a/\a<=7):ah .sub (.int .i64 7) (.int .i64 a)=some (.int .i64 (7-a)):=lP (bZ (by omega) (by omega))
theorem Ik{a:Nat}:ah .rem (.int .i64 a) (.int .i64 4)=some (.int .i64 ((a % 4:Nat):Int)):=by
 have e:(a:Int).tmod 4=((a % 4:Nat):Int):=by rw[Int.tmod_eq_emod_of_nonneg (by omega)];omega
 simp[ah,arith,e]
theorem I8{a:Nat}(h1:a<9223372036854775808):ah .quo (.int .i64 a) (.int .i64 4)=some (.int .i64 ((a / 4:Nat):Int)):=by
 have e:fk .i64 ((a:Int).tdiv 4)=((a / 4:Nat):Int):=by
  rw[Int.tdiv_eq_ediv_of_nonneg (by omega),bZ (by omega) (by omega)];omega
 have e2:ah .quo (.int .i64 a) (.int .i64 4)=some (.int .i64 (fk .i64 ((a:Int).tdiv 4))):=rfl;rw[e2,e]
structure sw (T:Nat->Option af):Prop where
 p:aP T
 f263:T 263=some f263
 f317:T 317=some f317
 f318:T 318=some f318
 f319:T 319=some f319
 f320:T 320=some f320
 f321:T 321=some f321
 f322:T 322=some f322
theorem Q4(F:sw T){h:Heap}(hr:Rdy h)(v:Value){c:Ce}(hc:InB c):Pu T 317 [v,ceV c] h (ceV (dH 0 c)):=by
 refine .of F.p F.f317 hr rfl ?_;obtain⟨cx,cy,cz⟩:=c;obtain⟨hx,hy,hz⟩:=hc;dsimp only at hx hy hz;have mx:=dg hx;have my:=dg hy;have mz:=dg hz;have ck:bK 3 (bE 0 (ceL (dH 0 ⟨cx,cy,cz⟩)))=ceL (dH 0 ⟨cx,cy,cz⟩):=rfl;refine Y9 ?_;refine an ?_ (aX (own:=true) (s:=1) rfl ?_ ck rfl rfl) rfl
 ·rw[Heap.aq (by show h.next<=h.next+1;omega)];exact hr.log
 ·exact YG
theorem QN(F:sw T){h:Heap}(hr:Rdy h)(v:Value){c:Ce}(hc:InB c):Pu T 318 [v,ceV c] h (ceV (dH 1 c)):=by
 refine .of F.p F.f318 hr rfl ?_;obtain⟨cx,cy,cz⟩:=c;obtain⟨hx,hy,hz⟩:=hc;dsimp only at hx hy hz;have mx:=dg hx;have my:=dg hy;have mz:=dg hz;have ck:bK 3 (bE 0 (ceL (dH 1 ⟨cx,cy,cz⟩)))=ceL (dH 1 ⟨cx,cy,cz⟩):=rfl;refine Y16 ?_;refine an ?_ (aX (own:=true) (s:=1) rfl ?_ ck rfl rfl) rfl
 ·rw[Heap.aq (by show h.next<=h.next+1;omega)];exact hr.log
 ·exact YG
theorem Q1(F:sw T){h:Heap}(hr:Rdy h)(v:Value){c:Ce}(hc:InB c):Pu T 319 [v,ceV c] h (ceV (dH 2 c)):=by
 refine .of F.p F.f319 hr rfl ?_;obtain⟨cx,cy,cz⟩:=c;obtain⟨hx,hy,hz⟩:=hc;dsimp only at hx hy hz;have mx:=dg hx;have my:=dg hy;have mz:=dg hz;have ck:bK 3 (bE 0 (ceL (dH 2 ⟨cx,cy,cz⟩)))=ceL (dH 2 ⟨cx,cy,cz⟩):=rfl;refine Y17 ?_;refine an ?_ (aX (own:=true) (s:=1) rfl ?_ ck rfl rfl) rfl
 ·rw[Heap.aq (by show h.next<=h.next+1;omega)];exact hr.log
 ·exact YG
theorem RL(F:sw T){h:Heap}(hr:Rdy h)(v:Value){c:Ce}(hc:InB c):Pu T 320 [v,ceV c] h (ceV (dH 3 c)):=by
 refine .of F.p F.f320 hr rfl ?_;obtain⟨cx,cy,cz⟩:=c;obtain⟨hx,hy,hz⟩:=hc;dsimp only at hx hy hz;have mx:=dg hx;have my:=dg hy;have mz:=dg hz;have ck:bK 3 (bE 0 (ceL (dH 3 ⟨cx,cy,cz⟩)))=ceL (dH 3 ⟨cx,cy,cz⟩):=rfl;refine Y16 ?_;refine an ?_ (aX (own:=true) (s:=1) rfl ?_ ck rfl rfl) rfl
 ·rw[Heap.aq (by show h.next<=h.next+1;omega)];exact hr.log
 ·exact YG
theorem RG(F:sw T){h:Heap}(hr:Rdy h)(v:Value){c:Ce}(hc:InB c):Pu T 321 [v,ceV c] h (ceV (dH 4 c)):=by
 refine .of F.p F.f321 hr rfl ?_;obtain⟨cx,cy,cz⟩:=c;obtain⟨hx,hy,hz⟩:=hc;dsimp only at hx hy hz;have mx:=dg hx;have my:=dg hy;have mz:=dg hz;have ck:bK 3 (bE 0 (ceL (dH 4 ⟨cx,cy,cz⟩)))=ceL (dH 4 ⟨cx,cy,cz⟩):=rfl;refine Y16 ?_;refine an ?_ (aX (own:=true) (s:=1) rfl ?_ ck rfl rfl) rfl
 ·rw[Heap.aq (by show h.next<=h.next+1;omega)];exact hr.log
 ·exact YG
theorem Ry(F:sw T){h:Heap}(hr:Rdy h)(v:Value){c:Ce}(hc:InB c):Pu T 322 [v,ceV c] h (ceV (dH 5 c)):=by
 refine .of F.p F.f322 hr rfl ?_;obtain⟨cx,cy,cz⟩:=c;obtain⟨hx,hy,hz⟩:=hc;dsimp only at hx hy hz;have mx:=dg hx;have my:=dg hy;have mz:=dg hz;have ck:bK 3 (bE 0 (ceL (dH 5 ⟨cx,cy,cz⟩)))=ceL (dH 5 ⟨cx,cy,cz⟩):=rfl;refine Y16 ?_;refine an ?_ (aX (own:=true) (s:=1) rfl ?_ ck rfl rfl) rfl
 ·rw[Heap.aq (by show h.next<=h.next+1;omega)];exact hr.log
 ·exact YG
theorem Rz(F:sw T){h:Heap}(hr:Rdy h)(v:Value){c:Ce}(hc:InB c):∀k,k<6->Pu T (317+k) [v,ceV c] h (ceV (dH k c))
 |0,_=>Q4 F hr v hc
 |1,_=>QN F hr v hc
 |2,_=>Q1 F hr v hc
 |3,_=>RL F hr v hc
 |4,_=>RG F hr v hc
 |5,_=>Ry F hr v hc
 |k+6,h=>by omega
def ue(k:Nat):Value:= .func (.func (317+k)) #[.int .i64 0] #[]
def JI:List Value:=[ue 0,ue 1,ue 2,ue 3,ue 4,ue 5]
theorem I1:∀k,k<6->bP JI (0+k*1)=some (ue k)
 |0,_=>rfl
 |1,_=>rfl
 |2,_=>rfl
 |3,_=>rfl
 |4,_=>rfl
 |5,_=>rfl
 |k+6,h=>by omega
theorem F2(F:sw T){h:Heap}(hr:Rdy h){c:Ce}(hc:InB c){t:Nat}(ht:t<24):Pu T 263 [ceV c, .int .i64 (t:Nat)] h (ceV (fB t c)):=by
 refine .of F.p F.f263 hr rfl ?_;have x0:Ext h ((h.push (.cells (cellsOf (ceV c)) true 1)).push (.cells [I.O,I.O,I.O] true 1)):=((Ext.refl h).push _).push _;have g0:((h.push (.cells (cellsOf (ceV c)) true 1)).push (.cells [I.O,I.O,I.O] true 1)).get h.next=some (.cells (ceL c) true 1):=(z4 (Nat.lt_succ_self _)).trans (z3 h _)
 have g1:((h.push (.cells (cellsOf (ceV c)) true 1)).push (.cells [I.O,I.O,I.O] true 1)).get (h.next+1)=some (.cells [I.O,I.O,I.O] true 1):=z3 _ _;have n0:((h.push (.cells (cellsOf (ceV c)) true 1)).push (.cells [I.O,I.O,I.O] true 1)).next=h.next+2:=rfl
 refine Y4 ?_;generalize((h.push (.cells (cellsOf (ceV c)) true 1)).push (.cells [I.O,I.O,I.O] true 1))=H at*;have W:=x0.wf hr.wf;have hL:=x0.log.trans hr.log;refine Y3 ?_;refine dI (E0:=[(1, .int .i64 (t:Nat)),(2, .pointer (some ⟨h.next,0,none⟩)),(4, .pointer (some ⟨h.next+1,0,none⟩)),(6, .pointer (some ⟨H.next,0,none⟩))]) (P:=λh'=>Ext H h'∧h'.next=H.next+1/\h'.get H.next=some (.cells JI true 1)) ?_ ?_
 ·refine Y16 ?_;refine cN ?_;refine y1 ?_;exact⟨rfl,rfl,rfl,dO (by omega) _ _,rfl,fC _ _⟩
 rintro H1 ⟨x1,n1,q1⟩;have ey1':=x0.trans x1;have W1:=ey1'.wf hr.wf;have hL1:=ey1'.log.trans hr.log;have ga:=(x1.old _ (by omega)).trans g0;have gb:=(x1.old _ (by omega)).trans g1;have hk:t / 4<6:=by omega
 have m1:ah .quo (.int .i64 (t:Nat)) (.int .i64 4)=some (.int .i64 ((t / 4:Nat):Int)):=I8 (by omega);have m2:ah .rem (.int .i64 (t:Nat)) (.int .i64 4)=some (.int .i64 ((t % 4:Nat):Int)):=Ik;have e1:=I1 (t / 4) hk;have C:=Rz F (h:={H1 with log:=[]}) (.of W1) (.int .i64 0) hc (t / 4) hk;have hb:=hc.OY (t / 4);have hr4:t % 4<4:=by omega
 have ck:bK 3 (bE 0 (ceL c))=ceL c:=rfl;have ckl:Nat.beq (bO (ceL c)) 3=true:=rfl;unfold fB;generalize hq:dH (t / 4) c=d at*;generalize t / 4=k at*;generalize t % 4=r at*;unfold ue at e1;clear g0 g1;refine Y8 ?_;refine FW.puD C (by(repeat apply aI rfl);exact bg) ?_;clear C;refine iO rfl rfl rfl (by exact rfl) (by exact rfl) (by exact rfl) (by assumption) (by exact rfl) (by exact rfl) (by omega) (by omega) (by exact bg) ?_;refine Y10 ?_
 refine bD (λm e ds h'=>∃j:Nat,j<=r/\r-j=m/\e=[(2, .pointer (some ⟨h.next,0,none⟩)),(4, .pointer (some ⟨h.next+1,0,none⟩)),(27, .int .i64 (r:Nat)),(28, .int .i64 (j:Nat))]/\ds=[]/\Ext h h'∧h.next+2<=h'.next/\h'.get h.next=some (.cells (ceL (nC j d)) true 1)/\h'.get (h.next+1)=some (.cells [I.O,I.O,I.O] true 1))
  ⟨0,Nat.zero_le _,rfl,rfl,rfl,⟨ey1'.next,(Heap.aq (by omega)).trans ey1'.log,λb hb=>(z5 (by omega)).trans (ey1'.old b hb),λw=>(ey1'.wf w).as (AS.wr h.next _ _ _)⟩,by show h.next+2<=H1.next;omega,by rw[z6,ga];rfl,(z5 (by omega)).trans gb⟩ ?_
 rintro m e ds h' ⟨j,hj,rfl,rfl,rfl,x,hn,gc,gd⟩;have hbj:=hb.rot j;by_cases hlt:j<r
 ·have hro:nC (j+1) d=Cq (nC j d):=rfl;generalize nC j d=b at*;obtain⟨bx,by',bz⟩:=b;obtain⟨_,hy,_⟩:=hbj;dsimp only at hy;have my:=dg hy;unfold Cq at hro;dsimp only at hro;refine Y19 ?_;refine cN ?_;refine Y7 ?_;refine⟨r-(j+1),by omega,j+1,by omega,rfl,rfl,rfl,⟨x.next,(Heap.aq (by omega)).trans x.log,λb hb=>(z5 (by omega)).trans (x.old b hb),λw=>(x.wf w).as (AS.wr h.next _ _ _)⟩,hn,?_,(z5 (by omega)).trans gd⟩;rw[z6,gc,hro];rfl
 ·obtain rfl:j=r:=by omega
  generalize nC j d=b at*;have ckb:bK 3 (bE 0 (ceL b))=ceL b:=rfl;have ckbl:Nat.beq (bO (ceL b)) 3=true:=rfl;refine Y15 ?_;refine an ?_ (aX (own:=true) (s:=1) rfl ?_ ckb ckbl rfl) rfl
  ·rw[Heap.aq (by show h.next<=h.next+1;omega)];exact x.log.trans hr.log
  ·exact YG
end Go.A.Pk
end
section
namespace Go.A.Pk
variable {T:Nat->Option af}
def kW(o:List Nat)(c:Ce):List Nat:=o.set c.z.toNat (Nat.lor (o.getD c.z.toNat 0) (2 ^ (8*c.y.toNat+c.x.toNat)))
theorem uC(o:List Nat){z i:Nat}(hi:i<64):kW o (dY z i)=o.set z (Nat.lor (o.getD z 0) (2 ^ i)):=by
 unfold kW dY;dsimp only;rw[show((z:Nat):Int).toNat=z by omega,show 8*((i / 8:Nat):Int).toNat+((i % 8:Nat):Int).toNat=i by omega]
theorem IsS.kW{o:List Nat}(h:IsS o){c:Ce}(hc:inG c=true):IsS (Pk.kW o c):=by
 obtain⟨z,i,hz,hi,rfl⟩:=gP hc;rw[uC o hi];refine⟨by rw[List.length_set];exact h.len,λx hx=> ?_⟩;rcases List.mem_or_eq_of_mem_set hx with h1|h1
 ·exact h.lt x h1
 ·rw[h1];exact Le (h.jL z) (sd hi)
def j4(f:Ce->Ce)(l:List Ce):List Nat:=l.foldl (λo c=>kW o (f c)) s0
def gp(f:Ce->Ce)(s:List Nat):List Nat:=j4 f (aR s 512)
theorem pZ(f:Ce->Ce)(l:List Ce)(c:Ce):j4 f (l++[c])=kW (j4 f l) (f c):=by unfold j4;rw[List.foldl_append];rfl
theorem pM{f:Ce->Ce}:∀{l:List Ce},(∀c∈l,inG (f c)=true)->IsS (j4 f l):=by
 intro l;have:∀(l:List Ce) (o:List Nat),IsS o->(∀c∈l,inG (f c)=true)->IsS (l.foldl (λo c=>kW o (f c)) o):=by
  intro l;induction l with
  |nil=>intro o ho _;exact ho
  |cons c l ih=>intro o ho hl;exact ih _ (ho.kW (hl c List.mem_cons_self)) λx hx=>hl x (List.mem_cons_of_mem _ hx)
 exact λhl=>this l s0 qU hl
theorem Aa{o:List Nat}{z v:Nat}(hz:z<o.length):cQ (us o) (0+z*1) (cellsOf (.int .u64 (v:Nat)))=us (o.set z v):=by
 show cQ (us o) (0+z*1) [.int .u64 (v:Nat)]=_;rw[Nat.zero_add,Nat.mul_one,fG (by rw[aA];simp;omega)];unfold us;rw[List.map_set,List.set_eq_take_append_cons_drop,if_pos (by simpa using hz)];simp
section
open I
def tn:bh:=I.R [g 7 (.new [O,O,O]),S 3 7 11] [3,4,5,6,7]
def tw:bh:=(.block 1 (Q (I.R [L 12 3,N 13 3 7,g 14 (.call (t 12) [(t 13)]),g 8 (.new [O,O,O]),S 3 8 14] [4,5,6,8])
 (Q (.seq (I.R [N 15 3 8,g 16 (.call (.func 126) [(t 15)]),g 17 (.un .not (t 16))] [4,5,6,8,17])
 (.cond (t 17) (Q (I.R [g 18 (.build (aD 8 (.int .u64 0)) []),S 8 4 18,⟨none, .store 1 (t 5) (.const (.bool false)),none⟩] [])
 .ret) .skip))
 (.draw [A 19 2 8,L 20 19,g 21 (.cw 8 1 (t 6) (t 20)),L 22 21,N 23 3 8,g 24 (.call (.func 127) [(t 23)]),B 25 .or 22 24,g 26 (.cw 8 1 (t 6) (t 20)),S 1 26 25] [0,1,2,3,4,5,6,7,8] [0,1,3,7,0,16,63,127,255] []))))
end
structure Cj (T:Nat->Option af):Prop where
 cp:DH T
 tu:sw T
 f126:T 126=some f126
 f127:T 127=some f127
 f211:T 211=some f211
 f215:T 215=some f215
 f261:T 261=some f261
 f262:T 262=some f262
theorem GB(F:Cj T){H:Heap}(hr:Rdy H){q l lo N b3 b4 b5 gf:Nat}{cap fv:Value}{o:List Nat}(ho:IsS o){c d:Ce}(hd:inG d=true)(hlo:lo<=q)(hql:q<l)(hlN:l<N)(h3q:b3<q)
 (gl:H.get l=some (.loop [(3, .pointer (some ⟨b3,0,none⟩)),(4, .pointer (some ⟨b4,0,none⟩)),(5, .pointer (some ⟨b5,0,none⟩)),(6, .pointer (some ⟨q,0,none⟩)),(10,fv)] [11] tn tw 0 .normal))
 (g3:H.get b3=some (.cells [.func (.func gf) #[] #[cap]] true 1))
 (hto:∀H':Heap,WF H'→(∀z,z<b3->H'.get z=H.get z)->Pu T gf [ceV c,cap] {H' with log:=[]} (ceV d))
 (go:H.get q=some (.cells (us o) true 1)){S:Heap->Prop}:
 FW T (.yield l) [ceV c] H λr H'=>(∀z∈H'.log,lo<=z/\z<N)/\(r= .ret (.bool true)/\(H'.get q=some (.cells (us (kW o d)) true 1)/\(∀z,z<H.next->z≠q->H'.get z=H.get z)/\H.next<=H'.next)∨r= .ret (.bool false)/\l∈H'.log/\S H'):=by
 have hp:=F.cp.p;have no:q≠l:=by omega
 have ko:=hr.wf.hM go;have kl:=hr.wf.hM gl;have k3:=hr.wf.hM g3;refine FW.JM hp (R:=λH'=>H'.get q=some (.cells (us (kW o d)) true 1)/\(∀z,z<H.next->z≠q->H'.get z=H.get z)/\H.next<=H'.next) gl rfl kl ⟨by omega,hlN⟩ ?_;unfold tn;refine Y3 ?_;refine cN ?_;refine y1 ?_;refine⟨rfl,YG,?_⟩;unfold tw;refine pg ?_;refine WE.J2 ?_;intro hA hAe;have A1:∀z,z<H.next->z≠l->H.get z=hA.get z:=λz hz hne=>by rw[hAe];symm;simp(disch:=first|omega|(simp only[z1,z2];omega))only[z5,z4]
 have A3:hA.get H.next=some (.cells (ceL c) true 1):=by rw[hAe];(simp(disch:=first|omega|(simp only[z1,z2];omega))only[z3,z4,z5,z6,z7,z1,z2,gl,g3,go];exact rfl)
 have A2:hA.get l=some (.loop [(3, .pointer (some ⟨b3,0,none⟩)),(4, .pointer (some ⟨b4,0,none⟩)),(5, .pointer (some ⟨b5,0,none⟩)),(6, .pointer (some ⟨q,0,none⟩)),(10,fv)] [11] tn tw 1 .normal):=by rw[hAe];(simp(disch:=first|omega|(simp only[z1,z2];omega))only[z3,z4,z5,z6,z7,z1,z2,gl,g3,go,A3];exact rfl)
 have A5:hA.next=H.next+1:=by rw[hAe];rfl
 have A6:hA.log=[]:=by rw[hAe];simp(disch:=first|omega|(simp only[z1,z2];omega))only[Heap.aq,Heap.vl];exact hr.log
 have A7:WF hA:=by rw[hAe];exact(((hr.wf.push _).as (AS.wr _ _ _ _)).as (AS.wr _ _ _ _))
 clear hAe;have Bo:=(A1 q ko no).symm.trans go;have B3:=(A1 b3 k3 (by omega)).symm.trans g3;have C1:=hto hA A7 λz hz=>(A1 z (by omega) (by omega)).symm;have ck:bK 3 (bE 0 (ceL c))=ceL c:=rfl;have ckl:Nat.beq (bO (ceL c)) 3=true:=rfl;clear go hto;refine dI (E0:=[(4, .pointer (some ⟨b4,0,none⟩)),(5, .pointer (some ⟨b5,0,none⟩)),(6, .pointer (some ⟨q,0,none⟩)),(8, .pointer (some ⟨hA.next,0,none⟩))]) (P:=λh'=>Ext hA h'∧h'.next=hA.next+1/\h'.get hA.next=some (.cells (ceL d) true 1)) ?_ ?_
 ·refine Y4 ?_;refine FW.pu C1 ?_;clear C1;refine Y2 ?_;refine cN ?_;refine y1 ?_;exact⟨rfl,rfl,rfl,dO (by omega) _ _,rfl,fC _ _⟩
 rintro hB ⟨xB,nB,gB⟩;clear C1 A3;have WB:=xB.wf A7;have LB:=xB.log.trans A6;have Bo2:=(xB.old _ (by omega)).trans Bo;have Bl2:=(xB.old _ (by omega)).trans A2;have C2:=EX hp F.f126 F.f215 (h:={hB with log:=[]}) (.of WB) d;rw[hd]at C2;obtain⟨z,i,hz,hi,rfl⟩:=gP hd;have C3:=Pj hp F.f127 (h:={hB with log:=[]}) (.of WB) (z:=z) hi;have ckd:bK 3 (bE 0 (ceL (dY z i)))=ceL (dY z i):=rfl;have ckdl:Nat.beq (bO (ceL (dY z i))) 3=true:=rfl;have lz:bP (ceL (dY z i)) (0+2)=some (.int .i64 ((z:Nat):Int)):=rfl;have e1:=iw (jP (s:=o) (i:=z) (by rw[ho.len];exact hz));have m1:=Ng (a:=o.getD z 0) (b:=2 ^ i) (ho.jL z) (sd hi);have kw:=Aa (o:=o) (z:=z) (v:=Nat.lor (o.getD z 0) (2 ^ i)) (by rw[ho.len];exact hz);rw[←uC o hi]at kw;have kc:(Nat.beq (bO (cellsOf (.int .u64 ((Nat.lor (o.getD z 0) (2 ^ i):Nat):Int)))) 1&&Nat.ble (0+z*1+1) (bO (us o))&&dP (cellsOf (.int .u64 ((Nat.lor (o.getD z 0) (2 ^ i):Nat):Int))))=true:=by
  rw[bV (us o),aA,ho.len,gw (by omega)];rfl
 clear Bo A2 B3 g3;refine Y4 ?_;refine FW.pu C2 ?_;clear C2;refine Y12 ?_;refine FW.puD C3 (by apply aI rfl;apply aM rfl (aC rfl (eT (by exact rfl) (by assumption) (by assumption)) (by exact gJ _ _)) rfl;apply aM rfl (aC rfl (oF (by exact rfl) (by exact rfl) (by omega)) (by exact cW _)) rfl;apply aM rfl (aC rfl (eT (by exact rfl) (by assumption) (by exact rfl)) (by exact gJ _ _)) rfl;apply aM rfl (aC rfl (ef (by exact rfl)) (by exact cW _)) rfl;exact bg) ?_;clear C3;refine Y2 ?_;refine gY (vs:=us o) (ws:=us (kW o (dY z i))) rfl rfl rfl (by exact rfl) (by exact rfl) (by exact rfl) Bo2 kc kw (by omega) (by(repeat apply aI rfl);exact bg) ?_;refine Y3 ?_;refine⟨⟨_,YG,rfl⟩,λz hz=> ?_, .inl ⟨rfl,λh5 hn h5e h5l=> ?_⟩⟩
 ·have key:z=q:=by
   rcases fu hz with h|hz
   ·exact h
   rw[LB]at hz;cases hz
  subst key;exact⟨hlo,by omega⟩
 ·refine⟨(h5e q ko no).trans (Heap.bC Bo2),λz hz hne=> ?_,hn⟩;by_cases hl:z=l
  ·subst hl;rw[gl];exact h5l
  ·refine(h5e z hz hl).trans ?_;rw[z5 hne,xB.old z (by omega)];exact(A1 z hz hl).symm
theorem iD{s:List Nat}{n:Nat}{c:Ce}(h:c∈aR s n):inG c=true:=by
 have:=Gt h;by_cases hc:inG c=true
 ·exact hc
 ·rw[fJ hc]at this;cases this
theorem Eb{f:Ce->Ce}{s:List Nat}(hin:∀c,inG c=true->inG (f c)=true):IsS (gp f s):=pM λc hc=>hin c (iD hc)
theorem EU(F:Cj T){h:Heap}(hr:Rdy h)(hg:Tab h)(h2:2<h.next){s:List Nat}(hs:IsS s){gf:Nat}{cap:Value}{f:Ce->Ce}(hin:∀c,inG c=true->inG (f c)=true)
 (hto:∀H':Heap,WF H'→(∀z,z<h.next->H'.get z=h.get z)->∀c,inG c=true->Pu T gf [ceV c,cap] {H' with log:=[]} (ceV (f c))):
 Pu T 261 [sv s, .func (.func gf) #[] #[cap]] h (.tuple #[sv (gp f s), .bool true]):=by
 have hp:=F.cp.p;have hms:=Eb (s:=s) hin;refine .of hp F.f261 hr (by
  have h1:flat (sv (gp f s))=true:=gT _;show gQ [sv (gp f s), .bool true]=true;simp only[gQ,h1,cond_true];rfl) ?_
 have k8:=aG hs.len;have k9:=aN hs.len;have x0:Ext h (((((h.push (.cells (cellsOf (sv s)) true 1)).push (.cells (cellsOf (.func (.func gf) #[] #[cap])) true 1)).push (.cells (aD 8 (.int .u64 0)) true 1)).push (.cells [.bool false] true 1)).push (.cells (aD 8 (.int .u64 0)) true 1)):=(((((Ext.refl h).push _).push _).push _).push _).push _;have gA:(((((h.push (.cells (cellsOf (sv s)) true 1)).push (.cells (cellsOf (.func (.func gf) #[] #[cap])) true 1)).push (.cells (aD 8 (.int .u64 0)) true 1)).push (.cells [.bool false] true 1)).push (.cells (aD 8 (.int .u64 0)) true 1)).get h.next=some (.cells (us s) true 1):=YG
 have gB:(((((h.push (.cells (cellsOf (sv s)) true 1)).push (.cells (cellsOf (.func (.func gf) #[] #[cap])) true 1)).push (.cells (aD 8 (.int .u64 0)) true 1)).push (.cells [.bool false] true 1)).push (.cells (aD 8 (.int .u64 0)) true 1)).get (h.next+1)=some (.cells [.func (.func gf) #[] #[cap]] true 1):=YG;have gC:(((((h.push (.cells (cellsOf (sv s)) true 1)).push (.cells (cellsOf (.func (.func gf) #[] #[cap])) true 1)).push (.cells (aD 8 (.int .u64 0)) true 1)).push (.cells [.bool false] true 1)).push (.cells (aD 8 (.int .u64 0)) true 1)).get (h.next+2)=some (.cells (us s0) true 1):=YG;have gD:(((((h.push (.cells (cellsOf (sv s)) true 1)).push (.cells (cellsOf (.func (.func gf) #[] #[cap])) true 1)).push (.cells (aD 8 (.int .u64 0)) true 1)).push (.cells [.bool false] true 1)).push (.cells (aD 8 (.int .u64 0)) true 1)).get (h.next+3)=some (.cells [.bool false] true 1):=YG;have gE:(((((h.push (.cells (cellsOf (sv s)) true 1)).push (.cells (cellsOf (.func (.func gf) #[] #[cap])) true 1)).push (.cells (aD 8 (.int .u64 0)) true 1)).push (.cells [.bool false] true 1)).push (.cells (aD 8 (.int .u64 0)) true 1)).get (h.next+4)=some (.cells (us s0) true 1):=YG;have n0:(((((h.push (.cells (cellsOf (sv s)) true 1)).push (.cells (cellsOf (.func (.func gf) #[] #[cap])) true 1)).push (.cells (aD 8 (.int .u64 0)) true 1)).push (.cells [.bool false] true 1)).push (.cells (aD 8 (.int .u64 0)) true 1)).next=h.next+5:=rfl
 refine Y9 ?_;generalize(((((h.push (.cells (cellsOf (sv s)) true 1)).push (.cells (cellsOf (.func (.func gf) #[] #[cap])) true 1)).push (.cells (aD 8 (.int .u64 0)) true 1)).push (.cells [.bool false] true 1)).push (.cells (aD 8 (.int .u64 0)) true 1))=H at*;have W:=x0.wf hr.wf;have hL:=x0.log.trans hr.log;have C:=A8 F.cp (h:={H with log:=[]}) (.of W) hs;refine Y4 ?_;refine FW.al C (λv h' m q=>q) ?_;rintro _ H1 x1 ⟨q,rfl,gq,q2,q3⟩;clear C;have q2:H.next<=q:=q2
 have ey1':=x0.trans x1;have W1:=ey1'.wf hr.wf;have hL1:=ey1'.log.trans hr.log;have n1:=x1.next
 have gB1:=(x1.old _ (by omega)).trans gB;have gC1:=(x1.old _ (by omega)).trans gC;have gD1:=(x1.old _ (by omega)).trans gD;have gE1:=(x1.old _ (by omega)).trans gE;have hg1:Tab H1:=hg.ext ey1' h2;clear gA gB gC gD gE;refine Y2 ?_;refine xw (lo:=h.next+4) (P:=PXo H1.next (h.next+4) H1 (.loop [(3, .pointer (some ⟨h.next+1,0,none⟩)),(4, .pointer (some ⟨h.next+2,0,none⟩)),(5, .pointer (some ⟨h.next+3,0,none⟩)),(6, .pointer (some ⟨h.next+4,0,none⟩)),(10,fnC q)] [11] tn tw 0 .normal) (λd=>us (j4 f d)) (aR s 512)) (S:=λ_=>False) rfl (by rfl) (by rw[F.cp.f265];rfl) (by omega) (by omega) hL1 W1 ?_ (λH p=>⟨_,_,_,_,p.loop⟩) (λH p=>p.elim) ?_ (λ_ _ _ _ _ _ _ p=>p.elim)
 ·have Y:Je T (h.next+4) (H1.next+1) H1.next ceV (aR s 512) (λd H'=>PXo H1.next (h.next+4) H1 (.loop [(3, .pointer (some ⟨h.next+1,0,none⟩)),(4, .pointer (some ⟨h.next+2,0,none⟩)),(5, .pointer (some ⟨h.next+3,0,none⟩)),(6, .pointer (some ⟨h.next+4,0,none⟩)),(10,fnC q)] [11] tn tw 0 .normal) (λd=>us (j4 f d)) d H'∧IsS (j4 f d)) (λ_=>False):=by
   refine⟨λdone x Hh hx hrH hN hP=> ?_,λdone Ha Hb p n e=>⟨PXo.gZ (by omega) done Ha Hb p.1 n e,p.2⟩,λ_ _ h=>h,λ_ h=>h.elim⟩;obtain⟨hP,hd⟩:=hP;have hxG:=iD hx
   refine FW.mono' (GB F hrH (lo:=h.next+4) (N:=H1.next+1) (S:=λ_=>False) hd (d:=f x) (hin x hxG) (Nat.le_refl _) (by omega) (by omega) (by omega) hP.loop ((hP.old _ (by omega) (by omega)).trans gB1)
    (λH' w e=>hto H' w (λz hz=>(e z (by omega)).trans ((hP.old z (by omega) (by omega)).trans (ey1'.old z hz))) x hxG) hP.val) ?_
   rintro r' H' ⟨r1,r2⟩;refine⟨r1,r2.imp (λ⟨e,g,o,_⟩=>⟨e,⟨λz hz hne=>(o z (by omega) hne).trans (hP.old z hz hne),(o _ (by omega) (by omega)).trans hP.loop,?_⟩,?_⟩) id⟩
   ·rw[pZ];exact g
   ·rw[pZ];exact hd.kW (hin x hxG)
  have G:=yh F.cp (.of (W1.push (.loop [(3, .pointer (some ⟨h.next+1,0,none⟩)),(4, .pointer (some ⟨h.next+2,0,none⟩)),(5, .pointer (some ⟨h.next+3,0,none⟩)),(6, .pointer (some ⟨h.next+4,0,none⟩)),(10,fnC q)] [11] tn tw 0 .normal))) (q0:=q) (l:=H1.next) (N:=H1.next+1) (lo:=h.next+4) hs (Nat.le_refl _) (by show h.next+4<=H1.next+1;omega) (Nat.lt_succ_self _) Y ((z4 (by omega)).trans gq) (λd H' hP=>(hP.1.old 2 (by omega) (by omega)).trans hg1)
   ⟨⟨λz hz _=>z4 hz,z3 _ _,(z4 (by omega)).trans gE1⟩,qU⟩
  exact CW.mono G λr h' ⟨a,v,b,c⟩=>⟨a,v,b,c.imp (λp=>p.1) id⟩
 intro h4 h5 k1 k2 k3 k4 k5 hP;have D:=(k5 (h.next+4) (by omega)).trans hP.val;have D2:=(k5 (h.next+2) (by omega)).trans ((hP.old _ (by omega) (by omega)).trans gC1);have D3:=(k5 (h.next+3) (by omega)).trans ((hP.old _ (by omega) (by omega)).trans gD1);unfold gp at*;generalize j4 f (aR s 512)=z at*;have ck:=aN hms.len;have ckl:=aG hms.len;have cko:=bB z;have cks:(us z).length=8:=by rw[aA,hms.len]
 have ck0:=bB s0;have ck0l:(us s0).length=8:=rfl;refine Y4 ?_;refine aB (aO (by exact rfl) (by exact rfl) (by assumption) (by assumption) (by assumption) (by exact bB _)) ?_;refine aB (jm (by exact rfl) (by exact rfl) (by first|(simp(disch:=first|omega|(simp only[z1,z2];omega))only[z3,z4,z5,z6,z7,z1,z2,gq,gB1,gC1,gD1,gE1,D2,D3,D];exact rfl)|fail) (by exact rfl) (by exact rfl)) ?_;refine y3 ?_;refine lY ?_;refine an ?_ (aX (own:=true) (s:=1) (l:=us z) rfl ?_ ck ckl (I5 (own:=true) (s:=1) (ws:=[.bool true]) (v:= .bool true) rfl ?_ rfl rfl)) rfl
 ·rw[Heap.aq (by show h.next<=h.next+3;omega),Heap.aq (by show h.next<=h.next+2;omega)];exact k1
 ·(simp(disch:=first|omega|(simp only[z1,z2];omega))only[z3,z4,z5,z6,z7,z1,z2,gC1,D2];done)
 ·(simp(disch:=first|omega|(simp only[z1,z2];omega))only[z3,z4,z5,z6,z7,z1,z2,gD1,D3];exact rfl)
theorem Np(F:Cj T){h:Heap}(hr:Rdy h){qt t:Nat}(ht:t<24)(g:h.get qt=some (.cells [.int .i64 (t:Nat)] true 1)){c:Ce}(hc:inG c=true):Pu T 262 [ceV c, .pointer (some ⟨qt,0,none⟩)] h (ceV (fB t c)):=by
 refine .of F.cp.p F.f262 hr rfl ?_;have kq:=hr.wf.hM g;have W:WF ((h.push (.cells (cellsOf (ceV c)) true 1)).push (.cells [I.O,I.O,I.O] true 1)):=(hr.wf.push _).push _;have C:=F2 F.tu (.of W) (jK.1 hc) ht;have ck:bK 3 (bE 0 (ceL (fB t c)))=ceL (fB t c):=rfl;generalize fB t c=d at*;refine Y8 ?_;refine FW.pu C ?_;refine Y3 ?_;refine an ?_ (aX (own:=true) (s:=1) rfl ?_ ck rfl rfl) rfl
 ·rw[Heap.aq (by show h.next<=h.next+1;omega)];exact hr.log
 ·exact YG
def dw(s:List Nat)(t:Nat):List Nat:=gp (fB t) s
theorem lU{t:Nat}(c:Ce)(h:inG c=true):inG (fB t c)=true:=jK.2 ((jK.1 h).Ul t)
theorem lE(s:List Nat)(t:Nat):IsS (dw s t):=Eb lU
theorem M6(F:Cj T){h:Heap}(hr:Rdy h)(hg:Tab h)(h2:2<h.next){s:List Nat}(hs:IsS s){t:Nat}(ht:t<24):Pu T 211 [sv s, .int .i64 (t:Nat)] h (sv (dw s t)):=by
 refine .of F.cp.p F.f211 hr (gT _) ?_;have k8:=aG hs.len;have k9:=aN hs.len;have x0:Ext h (((h.push (.cells (cellsOf (sv s)) true 1)).push (.cells (cellsOf (Value.int .i64 (t:Nat))) true 1)).push (.cells (aD 8 (.int .u64 0)) true 1)):=(((Ext.refl h).push _).push _).push _;have gA:(((h.push (.cells (cellsOf (sv s)) true 1)).push (.cells (cellsOf (Value.int .i64 (t:Nat))) true 1)).push (.cells (aD 8 (.int .u64 0)) true 1)).get h.next=some (.cells (us s) true 1):=YG
 have gB:(((h.push (.cells (cellsOf (sv s)) true 1)).push (.cells (cellsOf (Value.int .i64 (t:Nat))) true 1)).push (.cells (aD 8 (.int .u64 0)) true 1)).get (h.next+1)=some (.cells [.int .i64 (t:Nat)] true 1):=YG;have gC:(((h.push (.cells (cellsOf (sv s)) true 1)).push (.cells (cellsOf (Value.int .i64 (t:Nat))) true 1)).push (.cells (aD 8 (.int .u64 0)) true 1)).get (h.next+2)=some (.cells (us s0) true 1):=YG;have n0:(((h.push (.cells (cellsOf (sv s)) true 1)).push (.cells (cellsOf (Value.int .i64 (t:Nat))) true 1)).push (.cells (aD 8 (.int .u64 0)) true 1)).next=h.next+3:=rfl
 refine Y5 ?_;generalize(((h.push (.cells (cellsOf (sv s)) true 1)).push (.cells (cellsOf (Value.int .i64 (t:Nat))) true 1)).push (.cells (aD 8 (.int .u64 0)) true 1))=H at*;have W:=x0.wf hr.wf;have hL:=x0.log.trans hr.log
 have C:=EU F (h:={H with log:=[]}) (.of W) (show Tab H from hg.ext x0 h2) (by show 2<H.next;omega) hs (gf:=262) (cap:= .pointer (some ⟨h.next+1,0,none⟩)) (f:=fB t) lU
  (λH' w e c hc=>Np F (.of w) ht ((e (h.next+1) (by show h.next+1<H.next;omega)).trans gB) hc)
 have hms:=lE s t;unfold dw at*;generalize gp (fB t) s=z at*;have ck:=aN hms.len;have ckl:=aG hms.len;have cko:=bB z;have cks:(us z).length=8:=by rw[aA,hms.len]
 have ck0:=bB s0;have ck0l:(us s0).length=8:=rfl;refine Y4 ?_;refine FW.pu C ?_;clear C;refine Y4 ?_;refine aB (aO (by exact rfl) (by exact rfl) YG (by assumption) (by assumption) (by exact bB _)) ?_;refine Y3 ?_;refine aB (cC (by exact rfl) YG (by assumption) (by assumption)) ?_;refine aB (aO (by exact rfl) (by exact rfl) YG (by assumption) (by assumption) (by exact bB _)) ?_;refine Y2 ?_;refine an ?_ (aX (own:=true) (s:=1) (l:=us z) rfl ?_ ck ckl rfl) rfl
 ·rw[Heap.aq (by show h.next<=h.next+2;omega),Heap.aq (by first|omega|(show h.next<=H.next;omega))];exact hL
 ·exact YG
def shP(p:Nat)(k:Int):Nat:=if 0<=k then Nat.mod (Nat.shiftLeft p k.toNat) 18446744073709551616 else Nat.shiftRight p (-k).toNat
theorem Of{p:Nat}{k:Int}(hp:p<U64):shP p k<U64:=by
 unfold shP;split
 ·exact Nat.mod_lt _ (by decide)
 ·exact Nat.lt_of_le_of_lt (Nat.shiftRight_le _ _) hp
def jU(s:List Nat)(a:Nat)(z k:Int):Nat->List Nat
 |0=>s0
 |n+1=>(jU s a z k n).set (((a+n:Nat):Int)+z).toNat (shP (s.getD (a+n) 0) k)
theorem mS{s:List Nat}(hs:IsS s)(a:Nat)(z k:Int):∀n,IsS (jU s a z k n)
 |0=>qU
 |n+1=>by
  have ih:=mS hs a z k n;refine⟨by unfold jU;rw[List.length_set];exact ih.len,λx hx=> ?_⟩;unfold jU at hx;rcases List.mem_or_eq_of_mem_set hx with h|h
  ·exact ih.lt x h
  ·rw[h];exact Of (hs.jL _)
def kj(s:List Nat)(b:Bx)(x y z:Int):List Nat:=jU s b.lo.z.toNat z (8*y+x) (b.hi.z-b.lo.z+1).toNat
theorem Q6{p n:Nat}(hn:n<64):ah .shl (.int .u64 (p:Nat)) (.int .i64 (n:Nat))=some (.int .u64 ((Nat.mod (Nat.shiftLeft p n) 18446744073709551616:Nat):Int)):=by
 have e1:((n:Nat):Int)=Int.ofNat n:=rfl;have e2:((p:Nat):Int)=Int.ofNat p:=rfl;rw[e1,e2];have:ah .shl (.int .u64 (Int.ofNat p)) (.int .i64 (Int.ofNat n))=some (.int .u64 (.ofNat (Nat.mod (Nat.shiftLeft p (Nat.min n 64)) 18446744073709551616))):=rfl;rw[this,show Nat.min n 64=n from Nat.min_eq_left (by omega)];rfl
def psL(s:List Nat)(b:Bx):List Value:=us s++bxL b
def psV(s:List Nat)(b:Bx):Value:= .agg (psL s b).toArray
theorem DY{s:List Nat}{b:Bx}(hs:IsS s)(j:Nat):bP (psL s b) (8+j)=bP (bxL b) j:=by
 rw[cF,cF];unfold psL;rw[List.getElem?_append_right (by rw[aA,hs.len];omega),aA,hs.len,Nat.add_sub_cancel_left]
theorem OG{s:List Nat}{b:Bx}(hs:IsS s){i:Nat}(hi:i<8):bP (psL s b) (0+0+i*1)=some (.int .u64 ((s.getD i 0:Nat):Int)):=by
 rw[cF,show 0+0+i*1=i by omega];unfold psL;rw[List.getElem?_append_left (by rw[aA,hs.len];omega)];unfold us;rw[List.getElem?_map,jP (by rw[hs.len];exact hi)];rfl
structure NM (T:Nat->Option af):Prop where
 p:aP T
 f212:T 212=some f212
theorem Fh(F:NM T){h:Heap}(hr:Rdy h){s:List Nat}(hs:IsS s){b:Bx}{x y z:Int}(hx: -7<=x/\x<=7)(hy: -7<=y/\y<=7)(hz: -7<=z/\z<=7)(hlo:0<=b.lo.z/\b.lo.z<=7)(hhi:0<=b.hi.z/\b.hi.z<=7)(hl:0<=b.lo.z+z)(hh:b.hi.z+z<=7):
 Pu T 212 [psV s b, .int .i64 x, .int .i64 y, .int .i64 z] h (sv (kj s b x y z)):=by
 refine .of F.p F.f212 hr (gT _) ?_;unfold kj;have hb:bxL b=[.int .i64 b.lo.x, .int .i64 b.lo.y, .int .i64 b.lo.z, .int .i64 b.hi.x, .int .i64 b.hi.y, .int .i64 b.hi.z]:=rfl;have eA:bP (psL s b) (0+8+0+2)=some (.int .i64 b.lo.z):=by rw[show 0+8+0+2=8+2 by omega,DY hs];rfl
 have eB:bP (psL s b) (0+8+3+2)=some (.int .i64 b.hi.z):=by rw[show 0+8+3+2=8+5 by omega,DY hs];rfl
 obtain⟨a,ha⟩:=Int.eq_ofNat_of_zero_le hlo.1;obtain⟨c,hc⟩:=Int.eq_ofNat_of_zero_le hhi.1;rw[ha]at eA hlo hl;rw[hc]at eB hhi hh;have eP:=λi hi=>OG (s:=s) (b:=b) hs (i:=i) hi;have hcells:cellsOf (psV s b)=psL s b:=by show(psL s b).toArray.toList=_;simp
 have x0:Ext h (((h.push (.cells (cellsOf (psV s b)) true 1)).push (.cells (aD 8 (.int .u64 0)) true 1)).push (.cells (aD 8 (.int .u64 0)) true 1)):=(((Ext.refl h).push _).push _).push _;have gA:(((h.push (.cells (cellsOf (psV s b)) true 1)).push (.cells (aD 8 (.int .u64 0)) true 1)).push (.cells (aD 8 (.int .u64 0)) true 1)).get h.next=some (.cells (psL s b) true 1):=by rw[hcells];(simp(disch:=first|omega|(simp only[z1,z2];omega))only[z3,z4,z5,z6,z7,z1,z2];done)
 have gB:(((h.push (.cells (cellsOf (psV s b)) true 1)).push (.cells (aD 8 (.int .u64 0)) true 1)).push (.cells (aD 8 (.int .u64 0)) true 1)).get (h.next+1)=some (.cells (us s0) true 1):=YG;have gC:(((h.push (.cells (cellsOf (psV s b)) true 1)).push (.cells (aD 8 (.int .u64 0)) true 1)).push (.cells (aD 8 (.int .u64 0)) true 1)).get (h.next+2)=some (.cells (us s0) true 1):=YG;have n0:(((h.push (.cells (cellsOf (psV s b)) true 1)).push (.cells (aD 8 (.int .u64 0)) true 1)).push (.cells (aD 8 (.int .u64 0)) true 1)).next=h.next+3:=rfl
 refine Y7 ?_;generalize(((h.push (.cells (cellsOf (psV s b)) true 1)).push (.cells (aD 8 (.int .u64 0)) true 1)).push (.cells (aD 8 (.int .u64 0)) true 1))=H at*;have hL:=x0.log.trans hr.log;rw[ha,hc];have m1:ah .mul (.int .i64 8) (.int .i64 y)=some (.int .i64 (8*y)):=EB (by omega) (by omega);have m2:ah .add (.int .i64 (8*y)) (.int .i64 x)=some (.int .i64 (8*y+x)):=lR (bZ (by omega) (by omega));refine Y9 ?_
 refine bD (λm e ds h'=>∃n:Nat,(a+n<=c+1∨n=0)/\8-n=m/\e=[(1, .int .i64 x),(2, .int .i64 y),(3, .int .i64 z),(4, .pointer (some ⟨h.next,0,none⟩)),(8, .pointer (some ⟨h.next+1,0,none⟩)),(9, .pointer (some ⟨h.next+2,0,none⟩)),(10, .int .i64 ((a+n:Nat):Int))]/\ds=[]/\Ext h h'∧h'.get h.next=some (.cells (psL s b) true 1)/\h'.get (h.next+1)=some (.cells (us s0) true 1)/\h'.get (h.next+2)=some (.cells (us (jU s a z (8*y+x) n)) true 1))
  ⟨0, .inr rfl,rfl,rfl,rfl,x0,gA,gB,gC⟩ ?_
 rintro m e ds h' ⟨n,hn,rfl,rfl,rfl,xx,g1,g2,g3⟩;have hso:=mS hs a z (8*y+x) n;by_cases hlt:a+n<=c
 ·have m3:ah .leq (.int .i64 ((a+n:Nat):Int)) (.int .i64 (c:Nat))=some (.bool true):=kN (by omega);obtain⟨w,hw⟩:=Int.eq_ofNat_of_zero_le (show 0<=((a+n:Nat):Int)+z by omega);have hw8:w<8:=by omega
  have m4:ah .add (.int .i64 ((a+n:Nat):Int)) (.int .i64 z)=some (.int .i64 ((w:Nat):Int)):=lR (by rw[bZ (by omega) (by omega)];omega);have e1:=eP (a+n) (by omega);have hstep:jU s a z (8*y+x) (n+1)=(jU s a z (8*y+x) n).set w (shP (s.getD (a+n) 0) (8*y+x)):=by
   rw[jU,hw];rfl
  have hnx:=xx.next
  by_cases hk:0<=8*y+x
  ·obtain⟨k,hk2⟩:=Int.eq_ofNat_of_zero_le hk;have hk3:k<64:=by omega
   rw[hk2]at m2 hstep hso g3⊢;have m5:ah .geq (.int .i64 ((k:Nat):Int)) (.int .i64 0)=some (.bool true):=zk (by omega);have m6:=Q6 (p:=s.getD (a+n) 0) hk3;have hsh:shP (s.getD (a+n) 0) ((k:Nat):Int)=Nat.mod (Nat.shiftLeft (s.getD (a+n) 0) k) 18446744073709551616:=by
    unfold shP;rw[if_pos (by omega)];rfl
   rw[←hsh]at m6;have kw:=Aa (o:=jU s a z ((k:Nat):Int) n) (z:=w) (v:=shP (s.getD (a+n) 0) ((k:Nat):Int)) (by rw[hso.len];exact hw8);rw[←hstep]at kw;have kc:(Nat.beq (bO (cellsOf (.int .u64 ((shP (s.getD (a+n) 0) ((k:Nat):Int):Nat):Int)))) 1&&Nat.ble (0+w*1+1) (bO (us (jU s a z ((k:Nat):Int) n)))&&dP (cellsOf (.int .u64 ((shP (s.getD (a+n) 0) ((k:Nat):Int):Nat):Int))))=true:=by
    rw[bV (us _),aA,hso.len,gw (by omega)];rfl
   have hn8:n<8:=by omega
   refine Y37 ?_;refine aB (jm (by exact rfl) (by exact rfl) g3 kc kw) ?_;refine cN ?_;refine Y8 ?_;exact⟨8-(n+1),by omega,n+1, .inl (by omega),rfl,rfl,rfl,⟨xx.next,(Heap.aq (by omega)).trans xx.log,λb hb=>(z5 (by omega)).trans (xx.old b hb),λw=>(xx.wf w).as (AS.wr h.next _ _ _)⟩,(z5 (by omega)).trans g1,(z5 (by omega)).trans g2,Heap.bC g3⟩
  ·obtain⟨k,hk2⟩:=Int.eq_ofNat_of_zero_le (show 0<= -(8*y+x)by omega);have hk3:k<64:=by omega
   have m5:ah .geq (.int .i64 (8*y+x)) (.int .i64 0)=some (.bool false):=zM (by omega);have m7:rW .neg (.int .i64 (8*y+x))=some (.int .i64 ((k:Nat):Int)):=by
    show some (Value.int .i64 (fk .i64 (0-(8*y+x))))=_;rw[bZ (by omega) (by omega)];congr 2;omega
   have m6:ah .shr (.int .u64 ((s.getD (a+n) 0:Nat):Int)) (.int .i64 ((k:Nat):Int))=_:=ud (a:=s.getD (a+n) 0) (n:=k) (by omega);have hsh:shP (s.getD (a+n) 0) (8*y+x)=Nat.shiftRight (s.getD (a+n) 0) k:=by
    unfold shP;rw[if_neg hk,show(-(8*y+x)).toNat=k by omega]
   rw[←hsh]at m6;have kw:=Aa (o:=jU s a z (8*y+x) n) (z:=w) (v:=shP (s.getD (a+n) 0) (8*y+x)) (by rw[hso.len];exact hw8);rw[←hstep]at kw;have kc:(Nat.beq (bO (cellsOf (.int .u64 ((shP (s.getD (a+n) 0) (8*y+x):Nat):Int)))) 1&&Nat.ble (0+w*1+1) (bO (us (jU s a z (8*y+x) n)))&&dP (cellsOf (.int .u64 ((shP (s.getD (a+n) 0) (8*y+x):Nat):Int))))=true:=by
    rw[bV (us _),aA,hso.len,gw (by omega)];rfl
   have hn8:n<8:=by omega
   refine Y35 ?_;refine aB (Kr (by exact rfl) (by assumption)) ?_;refine Y2 ?_;refine aB (jm (by exact rfl) (by exact rfl) g3 kc kw) ?_;refine cN ?_;refine Y8 ?_;exact⟨8-(n+1),by omega,n+1, .inl (by omega),rfl,rfl,rfl,⟨xx.next,(Heap.aq (by omega)).trans xx.log,λb hb=>(z5 (by omega)).trans (xx.old b hb),λw=>(xx.wf w).as (AS.wr h.next _ _ _)⟩,(z5 (by omega)).trans g1,(z5 (by omega)).trans g2,Heap.bC g3⟩
 ·have m3:ah .leq (.int .i64 ((a+n:Nat):Int)) (.int .i64 (c:Nat))=some (.bool false):=mu (by omega);rw[show((a:Nat):Int).toNat=a by omega,show(((c:Nat):Int)-((a:Nat):Int)+1).toNat=n by omega];generalize jU s a z (8*y+x) n=o at*;have ck:=aN hso.len;have ckl:=aG hso.len;have cko:=bB o;have cks:(us o).length=8:=by rw[aA,hso.len]
  have ck0l:(us s0).length=8:=rfl;refine Y17 ?_;refine aB (aO (by exact rfl) (by exact rfl) (by assumption) (by assumption) (by assumption) (by exact bB _)) ?_;refine Y2 ?_;refine an ?_ (aX (own:=true) (s:=1) (l:=us o) rfl ?_ ck ckl rfl) rfl
  ·rw[Heap.aq (by show h.next<=h.next+1;omega)];exact xx.log.trans hr.log
  ·exact YG
structure NY (T:Nat->Option af):Prop where
 p:aP T
 f188:T 188=some f188
 f254:T 254=some f254
def ew(s:List Nat):Nat:=(aR s 512).length
theorem su(F:NY T){h:Heap}(hr:Rdy h){s:List Nat}(hs:IsS s):Pu T 188 [sv s] h (.int .i64 ((ew s:Nat):Int)):=by
 refine .of F.p F.f188 hr rfl ?_;have k8:=aG hs.len;have k9:=aN hs.len;have W:=hr.wf.push (.cells (cellsOf (sv s)) true 1);have hl5:=iA s 512;unfold ew;refine Y9 ?_;refine aB (cC (by exact rfl) YG (by assumption) (by assumption)) ?_;refine Y3 ?_
 refine bD (λm e ds h'=>∃z:Nat,z<=8/\8-z=m/\e=[(3, .int .i64 (((aR s (z*64)).length:Nat):Int)),(6,sv s),(7, .int .i64 (z:Nat))]/\ds=[]/\h.push (.cells (cellsOf (sv s)) true 1)=h')
  ⟨0,by omega,rfl,rfl,rfl,rfl⟩ ?_
 rintro m e ds h' ⟨z,hz8,rfl,rfl,rfl,rfl⟩;by_cases hz:z<8
 ·have e1:bP (us s).toArray.toList (z*1)=some (.int .u64 ((s.getD z 0:Nat):Int)):=by
   rw[List.toList_toArray,Nat.mul_one,cF];unfold us;rw[List.getElem?_map,jP (by rw[hs.len];exact hz)];rfl
  have C:=Lo F.p F.f254 (.of W) (hs.jL z);have hplane:=mh s hz;have hle:=iA s (z*64);have hpl:(qx s z).length=(bitsOf (s.getD z 0)).length:=by unfold qx;rw[List.length_map]
  have hb64:(bitsOf (s.getD z 0)).length<=64:=by
   unfold bitsOf;exact Nat.le_trans (List.length_filter_le ..) (by simp)
  have m1:ah .add (.int .i64 (((aR s (z*64)).length:Nat):Int)) (.int .i64 (((bitsOf (s.getD z 0)).length:Nat):Int))=some (.int .i64 (((aR s ((z+1)*64)).length:Nat):Int)):=by
   rw[hplane,List.length_append,hpl];exact lR (by rw[bZ (by omega) (by omega)];omega)
  generalize(bitsOf (s.getD z 0)).length=c3 at*;refine Y10 ?_;refine aB (Jt (by exact rfl) (by exact rfl) (by omega) (by assumption)) ?_;refine Y6 ?_;refine FW.pu C ?_;clear C;refine Y2 ?_;refine cN ?_;refine Y7 ?_;exact⟨8-(z+1),by omega,z+1,by omega,rfl,rfl,rfl,rfl⟩
 ·obtain rfl:z=8:=by omega
  rw[show 8*64=512 from rfl];generalize(aR s 512).length=c at*;refine Y15 ?_;exact an hr.log rfl rfl
structure Fi where
 t:Nat
 x:Int
 y:Int
 z:Int
 s:List Nat
def moV(t x y z:Int):Value:= .agg #[.int .i64 t, .int .i64 x, .int .i64 y, .int .i64 z]
def fiV(f:Fi):List Value:=[moV f.t f.x f.y f.z,sv f.s]
def zrN(lo:Int)(n:Nat):List Int:=(List.range n).map λi=>lo+(i:Nat)
theorem Ko(lo:Int)(n:Nat):zrN lo (n+1)=zrN lo n++[lo+(n:Nat)]:=by unfold zrN;rw[List.range_succ,List.map_append];rfl
def zr(lo hi:Int):List Int:=zrN lo (hi-lo+1).toNat
def uj(a p:List Nat)(bp:Bx)(t:Nat)(z y x:Int):List Fi:=if sIn (kj p bp x y z) a then [⟨t,x,y,z,kj p bp x y z⟩]else []
def sG(a p:List Nat)(ra bp:Bx)(t:Nat)(z y:Int):List Fi:=(zr (ra.lo.x-bp.lo.x) (ra.hi.x-bp.hi.x)).flatMap (uj a p bp t z y)
def u0(a p:List Nat)(ra bp:Bx)(t:Nat)(z:Int):List Fi:=(zr (ra.lo.y-bp.lo.y) (ra.hi.y-bp.hi.y)).flatMap (sG a p ra bp t z)
def Gj(a p:List Nat)(ra bp:Bx)(t:Nat):List Fi:=(zr (ra.lo.z-bp.lo.z) (ra.hi.z-bp.hi.z)).flatMap (u0 a p ra bp t)
def nZ(a b:List Nat)(t:Nat):List Fi:=Gj a (dw b t) (bL a).1 (bL (dw b t)).1 t
def iJ(a b:List Nat):List Fi:=if a=s0∨ew a<ew b then []else(List.range 24).flatMap (nZ a b)
structure CH (b:Bx):Prop where
 lo:InB b.lo
 hi:InB b.hi
theorem IJ{a b:Int}(ha:0<=a/\a<=7)(hb:0<=b/\b<=7):0<=mi a b/\mi a b<=7:=by unfold mi;split<;>assumption
theorem I9{a b:Int}(ha:0<=a/\a<=7)(hb:0<=b/\b<=7):0<=mx a b/\mx a b<=7:=by unfold mx;split<;>assumption
theorem CH.up{b:Bx}(h:CH b){c:Ce}(hc:InB c):CH (nW b c):=
 ⟨⟨IJ h.lo.x hc.x,IJ h.lo.y hc.y,IJ h.lo.z hc.z⟩,⟨I9 h.hi.x hc.x,I9 h.hi.y hc.y,I9 h.hi.z hc.z⟩⟩
theorem Pw:∀{l:List Ce},(∀c∈l,InB c)->CH (bxS l):=by
 intro l;have:∀(l:List Ce) (b:Bx),CH b->(∀c∈l,InB c)->CH (l.foldl nW b):=by
  intro l;induction l with
  |nil=>intro b hb _;exact hb
  |cons c l ih=>intro b hb hl;exact ih _ (hb.up (hl c List.mem_cons_self)) λx hx=>hl x (List.mem_cons_of_mem _ hx)
 exact λhl=>this l bx0 ⟨⟨by decide,by decide,by decide⟩,⟨by decide,by decide,by decide⟩⟩ hl
theorem gK(s:List Nat):CH (bL s).1:=by
 unfold bL;split
 ·exact⟨⟨by decide,by decide,by decide⟩,⟨by decide,by decide,by decide⟩⟩
 ·exact Pw λc hc=>jK.1 (iD hc)
structure Nz (T:Nat->Option af):Prop where
 mp:Cj T
 bd:Nu T
 li:NM T
 co:NY T
 f35:T 35=some f35
 f121:T 121=some f121
 f209:T 209=some f209
def uq:Bx:=⟨c0,c0⟩
theorem Ll{h:Heap}{e:Env}{x:Operand}{s:List Nat}(hs:IsS s)(hx:ev h e x=some (sv s)):jf h e [.int .u64 0, .int .u64 0, .int .u64 0, .int .u64 0, .int .u64 0, .int .u64 0, .int .u64 0, .int .u64 0,I.O,I.O,I.O,I.O,I.O,I.O] [(0,8,x)]=some (psL s uq):=by
 have e1:cellsOf (sv s)=us s:=by show(us s).toArray.toList=_;simp
 have h0:psL s0 uq=[.int .u64 0, .int .u64 0, .int .u64 0, .int .u64 0, .int .u64 0, .int .u64 0, .int .u64 0, .int .u64 0,I.O,I.O,I.O,I.O,I.O,I.O]:=rfl;have e2:cQ (psL s0 uq) 0 (us s)=psL s uq:=by
  rw[fG (by rw[aA,hs.len];decide),aA,hs.len,List.take_zero];rfl
 have e3:bO (us s)=8:=by rw[bV,aA,hs.len]
 rw[←h0];have e4:(Nat.beq 8 8&&Nat.ble (0+8) (bO (psL s0 uq)))=true:=rfl;simp only[jf,hx,e1,e2,e3];rfl
theorem Ao{s:List Nat}{b:Bx}(hs:IsS s):(psL s b).length=14:=by
 unfold psL;rw[List.length_append,aA,hs.len];rfl
theorem MY{s:List Nat}{b:Bx}(hs:IsS s):bK 14 (bE 0 (psL s b))=psL s b:=by rw[bS,bn,List.drop_zero,List.take_of_length_le (by rw[Ao hs];omega)]
theorem HO{s:List Nat}{b:Bx}(hs:IsS s):Nat.beq (bO (psL s b)) 14=true:=by rw[bV,Ao hs];rfl
theorem Jb{s:List Nat}{b:Bx}:dP (psL s b)=true:=kY (bB _) rfl
theorem Q9{s:List Nat}{b:Bx}(hs:IsS s):bK 8 (bE (0+0) (psL s b))=us s:=by
 rw[bS,bn,Nat.zero_add,List.drop_zero];unfold psL;rw[List.take_append_of_le_length (by rw[aA,hs.len];omega),List.take_of_length_le (by rw[aA,hs.len];omega)]
theorem PL{s:List Nat}{b b':Bx}(hs:IsS s):cQ (psL s b) (0+8) (cellsOf (bxV b'))=psL s b':=by
 show cQ (psL s b) 8 (bxL b')=_;unfold psL;rw[fG (by rw[List.length_append,aA,hs.len];exact Nat.le_refl _),List.take_append_of_le_length (by rw[aA,hs.len];omega),List.take_of_length_le (by rw[aA,hs.len];omega),List.drop_of_length_le (by rw[List.length_append,aA,hs.len];exact Nat.le_refl _)];simp
theorem Pq{s:List Nat}{b:Bx}(hs:IsS s):bK 3 (bE (0+8+0) (psL s b))=ceL b.lo:=by
 rw[bS,bn];unfold psL;rw[show 0+8+0=(us s).length by rw[aA,hs.len],List.drop_left];rfl
theorem OL{s:List Nat}{b:Bx}(hs:IsS s):bK 3 (bE (0+8+3) (psL s b))=ceL b.hi:=by
 rw[bS,bn];unfold psL;rw[List.drop_append,aA,hs.len,List.drop_of_length_le (by rw[aA,hs.len];omega)];rfl
structure FxK (P:List Fi->Heap->Prop) (lo:Nat) (h0:Heap) (q:Nat) (rm bp:Bx) (p:List Nat) (D:List Fi) (g:Heap):Prop where
 k:Lk lo h0 g
 pd:P D g
 nx:q+2<g.next
 g4:g.get h0.next=some (.cells (bxL rm) true 1)
 g7:g.get q=some (.cells (psL p bp) true 1)
 g8:g.get (q+1)=some (.cells (ceL bp.lo) true 1)
 g9:g.get (q+2)=some (.cells (ceL bp.hi) true 1)
theorem y6{lo hi z:Int}{n:Nat}(h:z=lo+(n:Nat))(hz:z<=hi):z∈zr lo hi:=List.mem_map.2 ⟨n,List.mem_range.2 (by omega),h.symm⟩
theorem wm{α:Type}(lo:Int)(n:Nat)(f:Int->List α){z:Int}(h:z=lo+(n:Nat)):(zrN lo (n+1)).flatMap f=(zrN lo n).flatMap f++f z:=by
 rw[Ko,List.flatMap_append,h];simp
theorem zu{lo hi:Int}{n:Nat}(h1:n=0∨lo+(n:Nat)<=hi+1)(h2:hi<lo+(n:Nat)):n=(hi-lo+1).toNat:=by omega
end Go.A.Pk
end
section
namespace Go.A.Pk
variable {T:Nat->Option af}
structure FxL (P:List Fi->Heap->Prop) (W:Heap->Nat->Prop) (lo:Nat) (h0:Heap) (q0 q:Nat) (rm bp:Bx) (p:List Nat) (D:List Fi) (g:Heap):Prop where
 k:Lk lo h0 g
 pd:P D g
 dm:((∀x,x<h0.next->g.get x=h0.get x)/\P D h0)∨q0∈g.log/\kX g q0
 nx:q+2<g.next
 g4:g.get h0.next=some (.cells (bxL rm) true 1)
 g7:g.get q=some (.cells (psL p bp) true 1)
 g8:g.get (q+1)=some (.cells (ceL bp.lo) true 1)
 g9:g.get (q+2)=some (.cells (ceL bp.hi) true 1)
 w4:¬W g h0.next
 w7:¬W g q
 w8:¬W g (q+1)
 w9:¬W g (q+2)
theorem Hq{P:List Fi->Heap->Prop}{h0:Heap}{q0:Nat}{D:List Fi}{g g':Heap}(hq0:q0<h0.next)(hn:h0.next<=g.next)(dm:((∀x,x<h0.next->g.get x=h0.get x)/\P D h0)∨q0∈g.log/\kX g q0)(x:Ext g g'):((∀x,x<h0.next->g'.get x=h0.get x)/\P D h0)∨q0∈g'.log/\kX g' q0:=by
 rcases dm with⟨a,b⟩|⟨a,vs,own,t,b,c⟩
 ·exact .inl ⟨λz hz=>(x.old z (by omega)).trans (a z hz),b⟩
 ·exact .inr ⟨by rw[x.log];exact a,vs,own,t,(x.old _ (by omega)).trans b,c⟩
section
variable {lo N l q0:Nat} {all:List Fi} {P:List Fi->Heap->Prop} {W:Heap->Nat->Prop} {h0:Heap} {q:Nat} {rm bp:Bx} {p:List Nat} {D D':List Fi} {g g':Heap}
theorem FxL.ext(Y:Gq T lo N l q0 fiV all P W)(f:FxL P W lo h0 q0 q rm bp p D g)(x:Ext g g')(hlo:lo<=g.next)(hq0:q0<h0.next)(hq:h0.next<q):FxL P W lo h0 q0 q rm bp p D g':=by
 have h1:=x.next
 have h2:=f.nx;have hw:∀z,¬W g z->¬W g' z:=λz hz q=>hz (Y.wst _ _ _ f.pd h1 x.old z q);exact⟨f.k.trans (x.lk hlo),Y.gZ _ _ _ f.pd h1 x.old,Hq hq0 f.k.next f.dm x,by omega,(x.old _ (by omega)).trans f.g4,(x.old _ (by omega)).trans f.g7,(x.old _ (by omega)).trans f.g8,(x.old _ (by omega)).trans f.g9,hw _ f.w4,hw _ f.w7,hw _ f.w8,hw _ f.w9⟩
theorem FxL.step(f:FxL P W lo h0 q0 q rm bp p D g)(x:Lk lo g g')(hd:q0∈g'.log/\kX g' q0)(hP:P D' g')(hk:∀z,z<g.next->¬W g z->g'.get z=g.get z)(hw:∀z,W g' z->W g z∨g.next<=z)(hq:h0.next<q):FxL P W lo h0 q0 q rm bp p D' g':=by
 have h1:=x.next
 have h2:=f.nx;have hw':∀z,z<g.next->¬W g z->¬W g' z:=λz hz hn q=>(hw z q).elim hn λq=>by omega
 exact⟨f.k.trans x,hP, .inr hd,by omega,(hk _ (by omega) f.w4).trans f.g4,(hk _ (by omega) f.w7).trans f.g7,(hk _ (by omega) f.w8).trans f.g8,(hk _ (by omega) f.w9).trans f.g9,hw' _ (by omega) f.w4,hw' _ (by omega) f.w7,hw' _ (by omega) f.w8,hw' _ (by omega) f.w9⟩
end
theorem Gf{α:Type}{D:List Fi}{L:List α}{n:Nat}(h:D.length<=n){f:Fi}:(D++[f]).length<=n+1:=by rw[List.length_append];exact Nat.succ_le_succ h
theorem I6(F:Nz T){h:Heap}(hr:Rdy h){qa qb l q0 N lo:Nat}{a b:List Nat}(ha:IsS a)(hb:IsS b){P:List Fi->Heap->Prop}{W:Heap->Nat->Prop}(hN:N<=h.next)(hlo:lo<=h.next)(h2N:2<N)
 (Y:Gq T lo N l q0 fiV (iJ a b) P W)
 (ga:∀d H,P d H->H.get qa=some (.cells (us a) true 1))(gb:∀d H,P d H->H.get qb=some (.cells (us b) true 1))(htab:∀d H,P d H->Tab H)(h0:P [] h):
 Gr T 209 [.func (.yield l) #[] #[], .pointer (some ⟨qa,0,none⟩), .pointer (some ⟨qb,0,none⟩)] h lo λv h'=>v= .tuple #[]/\P (iJ a b) h':=by
 have hp:=F.li.p;have ka8:=aG ha.len;have ka9:=aN ha.len;have kb8:=aG hb.len;have kb9:=aN hb.len;have hq0:q0<h.next:=Nat.lt_of_lt_of_le Y.hq hN
 refine Gr.ofK hp F.f209 hlo (λv h1 hA p=>Kv Y hq0 hA p) ?_;have C0:=xh F.bd (h:={h with log:=[]}) (.of hr.wf) (show Tab h from htab _ _ h0) (by show 2<h.next;omega) ha;have gA:=ga _ _ h0;unfold Ff at C0;have hsome:(bL a).2= !decide (a=s0):=by
  unfold bL;by_cases he:a=s0
  ·rw[if_pos he,decide_eq_true he];rfl
  ·rw[if_neg he,decide_eq_false he];rfl
 have hrm:=gK a;have hft:∀t,nZ a b t=Gj a (dw b t) (bL a).1 (bL (dw b t)).1 t:=λ_=>rfl;rw[hsome]at C0;generalize(bL a).1=rm at*;refine dI (E0:=[(0, .func (.yield l) #[] #[]),(1, .pointer (some ⟨qa,0,none⟩)),(2, .pointer (some ⟨qb,0,none⟩)),(4, .pointer (some ⟨h.next,0,none⟩)),(5, .bool (!decide (a=s0)))]) (P:=λh'=>Ext h h'∧h'.next=h.next+1/\h'.get h.next=some (.cells (bxL rm) true 1)) ?_ ?_
 ·refine Y3 ?_;refine FW.pu C0 ?_;refine Y6 ?_;refine cN ?_;refine y1 ?_;exact⟨rfl,rfl,rfl,dO (by omega) _ _,rfl,fC _ _⟩
 clear C0;rintro H1 ⟨x1,n1,q1⟩;have W1:=x1.wf hr.wf;have hL1:=x1.log.trans hr.log;have hk1:Lk lo h H1:=⟨x1.next,λhh=>by rw[hL1];exact eG.nil _,λz hz=>x1.old z (by omega),x1.wf⟩;have hP1:P [] H1:=Y.gZ _ _ _ h0 x1.next x1.old
 have hdm1:((∀x,x<h.next->H1.get x=h.get x)/\P [] h)∨q0∈H1.log/\kX H1 q0:= .inl ⟨x1.old,h0⟩;have hw1:¬W H1 h.next:=λq=>Nat.lt_irrefl _ (Y.wlt _ _ _ h0 (Y.wst _ _ _ h0 x1.next x1.old _ q))
 have gA1:=ga _ _ hP1;have gB1:=gb _ _ hP1;clear gA;by_cases he:a=s0
 ·have hf:iJ a b=[]:=if_pos (.inl he);rw[hf,decide_eq_true he];refine Y4 ?_;refine aU rfl rfl rfl (by exact rfl) (by exact rfl) (by exact rfl) (Ec (by exact rfl)) ?_;refine Y13 ?_;exact BM (hk1.log (by rw[hr.log];exact eG.nil _)) rfl ⟨rfl,hP1,hdm1⟩
 rw[decide_eq_false he];have C1:=su F.co (h:={H1 with log:=[]}) (.of W1) hb;have C2:=su F.co (h:={H1 with log:=[]}) (.of W1) ha;by_cases hcn:ew a<ew b
 ·have hf:iJ a b=[]:=if_pos (.inr hcn);rw[hf];have m1:ah .gtr (.int .i64 ((ew b:Nat):Int)) (.int .i64 ((ew a:Nat):Int))=some (.bool true):=ic (by omega);refine Y4 ?_;refine aU rfl rfl rfl (by exact rfl) (by exact rfl) (by exact rfl) (Ec (by exact rfl)) ?_;refine Y4 ?_;refine FW.puD C1 (by apply aM rfl (aC rfl (cC (by exact rfl) (by assumption) (by assumption) (by assumption)) (by exact oV _)) rfl;(repeat apply aI rfl);exact bg) ?_;skip;refine qC ?_;refine FW.puD C2 (by apply aI rfl;exact bg) ?_;refine Y8 ?_;exact BM (hk1.log (by rw[hr.log];exact eG.nil _)) rfl ⟨rfl,hP1,hdm1⟩
 have hf:iJ a b=(List.range 24).flatMap (nZ a b):=if_neg (λq=>q.elim he hcn);have m1:ah .gtr (.int .i64 ((ew b:Nat):Int)) (.int .i64 ((ew a:Nat):Int))=some (.bool false):=ij (by omega);refine Y4 ?_;refine aU rfl rfl rfl (by exact rfl) (by exact rfl) (by exact rfl) (Ec (by exact rfl)) ?_;refine Y4 ?_;refine FW.puD C1 (by apply aM rfl (aC rfl (cC (by exact rfl) (by assumption) (by assumption) (by assumption)) (by exact oV _)) rfl;(repeat apply aI rfl);exact bg) ?_;skip;refine qC ?_;refine FW.puD C2 (by apply aI rfl;exact bg) ?_;clear C1 C2;refine Y12 ?_
 refine bD (λk e ds h'=>∃t:Nat,t<=24/\24-t=k/\e=[(0, .func (.yield l) #[] #[]),(1, .pointer (some ⟨qa,0,none⟩)),(2, .pointer (some ⟨qb,0,none⟩)),(4, .pointer (some ⟨h.next,0,none⟩)),(28, .int .i64 (t:Nat))]/\ds=[]/\Lk lo h h'∧P ((List.range t).flatMap (nZ a b)) h'∧h.next<h'.next/\h'.get h.next=some (.cells (bxL rm) true 1)/\(((∀x,x<h.next->h'.get x=h.get x)/\P ((List.range t).flatMap (nZ a b)) h)∨q0∈h'.log/\kX h' q0)/\¬W h' h.next/\((List.range t).flatMap (nZ a b)).length<=t*4096)
  ⟨0,Nat.zero_le _,rfl,rfl,rfl,hk1,hP1,by omega,q1,hdm1,hw1,Nat.zero_le _⟩ ?_
 clear hP1 gA1 gB1 q1 hk1 W1 hL1 x1 n1 hdm1 hw1;rintro k e ds G ⟨t,ht24,rfl,rfl,rfl,hk,hP,hnx,g4,hdm,hwG,hln⟩;have WG:=hk.wf hr.wf;by_cases ht:t<24
 ·have hps:=lE b t;have hbp:=gK (dw b t);have D1:=M6 F.mp (h:={G with log:=[]}) (.of WG) (show Tab G from htab _ _ hP) (by show 2<G.next;omega) hb ht;have gB:=gb _ _ hP;have hT:(List.range (t+1)).flatMap (nZ a b)=(List.range t).flatMap (nZ a b)++nZ a b t:=by rw[List.range_succ,List.flatMap_append];simp
  have hmem:∀f∈nZ a b t,f∈iJ a b:=λf hf'=>by
   rw[hf];exact List.mem_flatMap.2 ⟨t,List.mem_range.2 ht,hf'⟩
  rw[hft t]at hT hmem;generalize(List.range t).flatMap (nZ a b)=D at*;generalize hbb:bL (dw b t)=bb at*;generalize dw b t=p at*;obtain⟨bp,some'⟩:=bb;dsimp only at hbp hT hmem;have kp8:=aG hps.len;have lo14:=Ao (b:=uq) hps;have lo14o:=Jb (s:=p) (b:=uq);refine Y13 ?_;refine dI (E0:=[(0, .func (.yield l) #[] #[]),(1, .pointer (some ⟨qa,0,none⟩)),(2, .pointer (some ⟨qb,0,none⟩)),(4, .pointer (some ⟨h.next,0,none⟩)),(6, .int .i64 (t:Nat)),(7, .pointer (some ⟨G.next,0,none⟩)),(28, .int .i64 (t:Nat))]) (P:=λh'=>Ext G h'∧h'.next=G.next+1/\h'.get G.next=some (.cells (psL p uq) true 1)) ?_ ?_
  ·refine Y4 ?_;refine FW.pu D1 ?_;skip;refine aB (nh (Ll hps (by exact rfl))) ?_;refine aB (tR) ?_;refine aB (aO (by exact rfl) (by exact rfl) YG (by assumption) (by exact rfl) (by assumption)) ?_;refine cN ?_;refine y1 ?_;exact⟨rfl,rfl,rfl,dO (by omega) _ _,rfl,fC _ _⟩
  clear D1;rintro G1 ⟨x1,n1,q1⟩;have WG1:=x1.wf WG;have hP1:P D G1:=Y.gZ _ _ _ hP x1.next x1.old
  have D2:=xh F.bd (h:={G1 with log:=[]}) (.of WG1) (show Tab G1 from htab _ _ hP1) (by show 2<G1.next;omega) hps;rw[hbb]at D2;unfold Ff at D2;dsimp only at D2;have ks:=Q9 (b:=uq) hps;have ku:=PL (b:=uq) (b':=bp) hps;have kuc:(Nat.beq (bO (cellsOf (bxV bp))) 6&&Nat.ble (0+8+6) (bO (psL p uq))&&dP (cellsOf (bxV bp)))=true:=by
   rw[bV (psL p uq),lo14];rfl
  refine dI (E0:=[(0, .func (.yield l) #[] #[]),(1, .pointer (some ⟨qa,0,none⟩)),(2, .pointer (some ⟨qb,0,none⟩)),(4, .pointer (some ⟨h.next,0,none⟩)),(6, .int .i64 (t:Nat)),(7, .pointer (some ⟨G.next,0,none⟩)),(28, .int .i64 (t:Nat))]) (P:=λh'=>Ext G h'∧h'.next=G.next+1/\h'.get G.next=some (.cells (psL p bp) true 1)) ?_ ?_
  ·refine Y4 ?_;refine FW.pu D2 ?_;refine Y4 ?_;refine aB (jm (by exact rfl) (by exact rfl) q1 kuc ku) ?_;refine cN ?_;refine y1 ?_;exact⟨rfl,rfl,rfl,⟨x1.next,(Heap.aq (by omega)).trans x1.log,λb hb=>(z5 (by omega)).trans (x1.old b hb),λw=>(x1.wf w).as (AS.wr h.next _ _ _)⟩,n1,Heap.bC q1⟩
  clear D2 q1 hP1 WG1 n1 x1;rintro G2 ⟨x2,n2,q2⟩;have kl:=Pq (b:=bp) hps;have kh:=OL (b:=bp) hps;have cl:Nat.beq (bO (ceL bp.lo)) 3=true:=rfl;have ch:Nat.beq (bO (ceL bp.hi)) 3=true:=rfl;refine dI (E0:=[(0, .func (.yield l) #[] #[]),(1, .pointer (some ⟨qa,0,none⟩)),(2, .pointer (some ⟨qb,0,none⟩)),(4, .pointer (some ⟨h.next,0,none⟩)),(6, .int .i64 (t:Nat)),(7, .pointer (some ⟨G.next,0,none⟩)),(8, .pointer (some ⟨G2.next,0,none⟩)),(9, .pointer (some ⟨G2.next+1,0,none⟩)),(28, .int .i64 (t:Nat))]) (P:=λh'=>Ext G h'∧h'.next=G2.next+2/\h'.get G.next=some (.cells (psL p bp) true 1)/\h'.get G2.next=some (.cells (ceL bp.lo) true 1)/\h'.get (G2.next+1)=some (.cells (ceL bp.hi) true 1)) ?_ ?_
  ·refine Y3 ?_;refine aU rfl rfl rfl (by exact rfl) (by exact rfl) (by exact rfl) (cC (by exact rfl) (by assumption) (by assumption) (by exact rfl)) ?_;refine Y2 ?_;refine aU rfl rfl rfl (by exact rfl) (by exact rfl) (by exact rfl) (cC (by exact rfl) (by assumption) (by assumption) (by exact rfl)) ?_;refine sO rfl rfl rfl (by exact rfl) (by exact rfl) (by exact rfl) tR (by refine cZ (aC rfl (cC (by exact rfl) YG (by assumption) (by exact rfl)) (by refine lD ?_;refine dD (dW _ _) ?_;refine dD (dW _ _) ?_;exact dD (dW _ _) (by assumption))) ?_;refine cZ (aC rfl (ef (by exact rfl)) (by exact cW _)) ?_;refine cZ (aC rfl (ef (by exact rfl)) (by exact cW _)) ?_;refine cZ (aC rfl (cC (by exact rfl) YG (by assumption) (by exact rfl)) (by refine lD ?_;refine dD (dW _ _) ?_;refine dD (dW _ _) ?_;exact dD (dW _ _) (by assumption))) ?_;refine cZ (aC rfl (ef (by exact rfl)) (by exact cW _)) ?_;refine cZ (aC rfl (ef (by exact rfl)) (by exact cW _)) ?_;exact tE) ?_;refine sO rfl rfl rfl (by exact rfl) (by exact rfl) (by exact rfl) tR (by refine cZ (El rfl) ?_;refine cZ (aC rfl (cC (by exact rfl) YG (by assumption) (by exact rfl)) (by refine lD ?_;refine dD (dW _ _) ?_;refine dD (dW _ _) ?_;exact dD (dW _ _) (by assumption))) ?_;refine cZ (aC rfl (ef (by exact rfl)) (by exact cW _)) ?_;refine cZ (aC rfl (ef (by exact rfl)) (by exact cW _)) ?_;refine cZ (aC rfl (cC (by exact rfl) YG (by assumption) (by exact rfl)) (by refine lD ?_;refine dD (dW _ _) ?_;refine dD (dW _ _) ?_;exact dD (dW _ _) (by assumption))) ?_;refine cZ (aC rfl (ef (by exact rfl)) (by exact cW _)) ?_;refine cZ (aC rfl (ef (by exact rfl)) (by exact cW _)) ?_;exact tE) ?_;refine iO rfl rfl rfl (by exact rfl) (by exact rfl) (by exact rfl) YG (by exact rfl) (by exact rfl) (by(simp only[z1,z2];omega)) (by omega) (by(repeat apply aI rfl);apply aM rfl (aC rfl (cC (by exact rfl) YG (by assumption) (by exact rfl)) (by refine lD ?_;refine dD (dW _ _) ?_;refine dD (dW _ _) ?_;exact dD (dW _ _) (by assumption))) rfl;apply aM rfl (aC rfl (ef (by exact rfl)) (by exact cW _)) rfl;apply aM rfl (aC rfl (ef (by exact rfl)) (by exact cW _)) rfl;(repeat apply aI rfl);exact bg) ?_;refine iO rfl rfl rfl (by exact rfl) (by exact rfl) (by exact rfl) YG (by exact rfl) (by exact rfl) (by(simp only[z1,z2];omega)) (by(simp only[z1,z2];omega)) (by(repeat apply aI rfl);exact bg) ?_;refine Y2 ?_;refine⟨rfl,rfl,rfl,⟨by show G.next<=G2.next+2;omega,by rw[Heap.aq (by show h.next<=G2.next+1;omega),Heap.aq (by omega)];exact x2.log,λb hb=>by
    rw[z5 (by show b≠G2.next+1;omega),z5 (by omega),z4 (by show b<G2.next+1;omega),z4 (by omega)];exact x2.old b hb,λw=>((((x2.wf w).push _).push _).as (AS.wr _ _ _ _)).as (AS.wr _ _ _ _)⟩,rfl,?_,?_,?_⟩
   ·exact YG
   ·exact YG
   ·exact YG
  rintro G3 ⟨x3,n3,q3,q8,q9⟩;rw[n2]at n3 q8 q9⊢;have hk3:Lk lo h G3:=hk.trans (x3.lk (by have:=hk.next;omega));have hP3:P D G3:=Y.gZ _ _ _ hP x3.next x3.old
  have hw3:∀z,W G3 z->W G z:=Y.wst _ _ _ hP x3.next x3.old
  have hw4:∀z,W G z->z<G.next:=λz=>Y.wlt _ _ z hP
  have FX:FxL P W lo h q0 G.next rm bp p D G3:=⟨hk3,hP3,Hq hq0 hk.next hdm x3,by omega,(x3.old _ hnx).trans g4,q3,q8,q9,λq=>hwG (hw3 _ q),λq=>absurd (hw4 _ (hw3 _ q)) (by omega),λq=>absurd (hw4 _ (hw3 _ q)) (by omega),λq=>absurd (hw4 _ (hw3 _ q)) (by omega)⟩
  have hqN:N<=G.next:=by have:=hk.next;omega
  have hqh:h.next<G.next:=hnx
  clear q2 x2 n2 q3 q8 q9 hk3 hP3 x3 n3 g4 hnx hP hk gB hw3 hw4 hwG hdm ks ku kuc kp8 lo14 lo14o kl kh cl ch WG;generalize G.next=q at*
  have hx1:=hrm.lo.x;have hx2:=hrm.hi.x;have hy1:=hrm.lo.y;have hy2:=hrm.hi.y;have hz1:=hrm.lo.z;have hz2:=hrm.hi.z;have px1:=hbp.lo.x;have px2:=hbp.hi.x;have py1:=hbp.lo.y;have py2:=hbp.hi.y;have pz1:=hbp.lo.z;have pz2:=hbp.hi.z;have sz1:ah .sub (.int .i64 rm.lo.z) (.int .i64 bp.lo.z)=some (.int .i64 (rm.lo.z-bp.lo.z)):=lP (bZ (by omega) (by omega));have sz2:ah .sub (.int .i64 rm.hi.z) (.int .i64 bp.hi.z)=some (.int .i64 (rm.hi.z-bp.hi.z)):=lP (bZ (by omega) (by omega));have sy1:ah .sub (.int .i64 rm.lo.y) (.int .i64 bp.lo.y)=some (.int .i64 (rm.lo.y-bp.lo.y)):=lP (bZ (by omega) (by omega));have sy2:ah .sub (.int .i64 rm.hi.y) (.int .i64 bp.hi.y)=some (.int .i64 (rm.hi.y-bp.hi.y)):=lP (bZ (by omega) (by omega));have sx1:ah .sub (.int .i64 rm.lo.x) (.int .i64 bp.lo.x)=some (.int .i64 (rm.lo.x-bp.lo.x)):=lP (bZ (by omega) (by omega));have sx2:ah .sub (.int .i64 rm.hi.x) (.int .i64 bp.hi.x)=some (.int .i64 (rm.hi.x-bp.hi.x)):=lP (bZ (by omega) (by omega));have q4:=FX.g4;have q8:=FX.g8;refine Y10 ?_
  refine bD (λk e ds h'=>∃(n:Nat) (z:Int),z=rm.lo.z-bp.lo.z+(n:Nat)/\(n=0∨z<=rm.hi.z-bp.hi.z+1)/\16-n=k/\e=[(0, .func (.yield l) #[] #[]),(1, .pointer (some ⟨qa,0,none⟩)),(2, .pointer (some ⟨qb,0,none⟩)),(4, .pointer (some ⟨h.next,0,none⟩)),(6, .int .i64 (t:Nat)),(7, .pointer (some ⟨q,0,none⟩)),(8, .pointer (some ⟨q+1,0,none⟩)),(9, .pointer (some ⟨q+1+1,0,none⟩)),(10, .int .i64 z),(28, .int .i64 (t:Nat))]/\ds=[]/\FxL P W lo h q0 q rm bp p (D++(zrN (rm.lo.z-bp.lo.z) n).flatMap (u0 a p rm bp t)) h'∧(D++(zrN (rm.lo.z-bp.lo.z) n).flatMap (u0 a p rm bp t)).length<=t*4096+n*256)
   ⟨0,_,by simp, .inl rfl,rfl,rfl,rfl,by rw[show zrN (rm.lo.z-bp.lo.z) 0=[]from rfl,List.flatMap_nil,List.append_nil];exact FX,by rw[show zrN (rm.lo.z-bp.lo.z) 0=[]from rfl,List.flatMap_nil,List.append_nil];exact Nat.le_trans hln (by omega)⟩ ?_
  clear FX q4 q8;rintro k e ds G ⟨n,z,hz,hn,rfl,rfl,rfl,FX,hlz⟩;have hn16:n<16:=by omega
  by_cases hle:z<=rm.hi.z-bp.hi.z
  ·have lz:ah .leq (.int .i64 z) (.int .i64 (rm.hi.z-bp.hi.z))=some (.bool true):=kN hle;have az:ah .add (.int .i64 z) (.int .i64 1)=some (.int .i64 (z+1)):=lR (bZ (by omega) (by omega));have mz:=y6 hz hle;have fz:=wm (rm.lo.z-bp.lo.z) n (u0 a p rm bp t) hz;have hfy:u0 a p rm bp t z=(zr (rm.lo.y-bp.lo.y) (rm.hi.y-bp.hi.y)).flatMap (sG a p rm bp t z):=rfl;have q4:=FX.g4;have q8:=FX.g8;have q9:=FX.g9;generalize hDz:D++(zrN (rm.lo.z-bp.lo.z) n).flatMap (u0 a p rm bp t)=Dz at*;refine Y26 ?_
   refine bD (λk e ds h'=>∃(j:Nat) (y:Int),y=rm.lo.y-bp.lo.y+(j:Nat)/\(j=0∨y<=rm.hi.y-bp.hi.y+1)/\16-j=k/\e=[(0, .func (.yield l) #[] #[]),(1, .pointer (some ⟨qa,0,none⟩)),(2, .pointer (some ⟨qb,0,none⟩)),(4, .pointer (some ⟨h.next,0,none⟩)),(6, .int .i64 (t:Nat)),(7, .pointer (some ⟨q,0,none⟩)),(8, .pointer (some ⟨q+1,0,none⟩)),(9, .pointer (some ⟨q+1+1,0,none⟩)),(10, .int .i64 z),(11, .int .i64 y),(28, .int .i64 (t:Nat))]/\ds=[]/\FxL P W lo h q0 q rm bp p (Dz++(zrN (rm.lo.y-bp.lo.y) j).flatMap (sG a p rm bp t z)) h'∧(Dz++(zrN (rm.lo.y-bp.lo.y) j).flatMap (sG a p rm bp t z)).length<=t*4096+n*256+j*16)
    ⟨0,_,by simp, .inl rfl,rfl,rfl,rfl,by rw[show zrN (rm.lo.y-bp.lo.y) 0=[]from rfl,List.flatMap_nil,List.append_nil];exact FX,by rw[show zrN (rm.lo.y-bp.lo.y) 0=[]from rfl,List.flatMap_nil,List.append_nil];exact Nat.le_trans hlz (by omega)⟩ ?_
   clear FX q4 q8 q9;rintro k e ds G ⟨j,y,hy,hj,rfl,rfl,rfl,FX,hly⟩;have hj16:j<16:=by omega
   have q4:=FX.g4;have q8:=FX.g8;have q9:=FX.g9;by_cases hley:y<=rm.hi.y-bp.hi.y
   ·have ly:ah .leq (.int .i64 y) (.int .i64 (rm.hi.y-bp.hi.y))=some (.bool true):=kN hley;have ay:ah .add (.int .i64 y) (.int .i64 1)=some (.int .i64 (y+1)):=lR (bZ (by omega) (by omega));have my:=y6 hy hley;have fy:=wm (rm.lo.y-bp.lo.y) j (sG a p rm bp t z) hy;have hfx:sG a p rm bp t z y=(zr (rm.lo.x-bp.lo.x) (rm.hi.x-bp.hi.x)).flatMap (uj a p bp t z y):=rfl;generalize hDy:Dz++(zrN (rm.lo.y-bp.lo.y) j).flatMap (sG a p rm bp t z)=Dy at*;refine Y26 ?_
    refine bD (λk e ds h'=>∃(i:Nat) (x:Int),x=rm.lo.x-bp.lo.x+(i:Nat)/\(i=0∨x<=rm.hi.x-bp.hi.x+1)/\16-i=k/\e=[(0, .func (.yield l) #[] #[]),(1, .pointer (some ⟨qa,0,none⟩)),(2, .pointer (some ⟨qb,0,none⟩)),(4, .pointer (some ⟨h.next,0,none⟩)),(6, .int .i64 (t:Nat)),(7, .pointer (some ⟨q,0,none⟩)),(8, .pointer (some ⟨q+1,0,none⟩)),(9, .pointer (some ⟨q+1+1,0,none⟩)),(10, .int .i64 z),(11, .int .i64 y),(12, .int .i64 x),(28, .int .i64 (t:Nat))]/\ds=[]/\FxL P W lo h q0 q rm bp p (Dy++(zrN (rm.lo.x-bp.lo.x) i).flatMap (uj a p bp t z y)) h'∧(Dy++(zrN (rm.lo.x-bp.lo.x) i).flatMap (uj a p bp t z y)).length<=t*4096+n*256+j*16+i)
     ⟨0,_,by simp, .inl rfl,rfl,rfl,rfl,by rw[show zrN (rm.lo.x-bp.lo.x) 0=[]from rfl,List.flatMap_nil,List.append_nil];exact FX,by rw[show zrN (rm.lo.x-bp.lo.x) 0=[]from rfl,List.flatMap_nil,List.append_nil];exact Nat.le_trans hly (by omega)⟩ ?_
    clear FX q4 q8 q9;rintro k e ds G ⟨i,x,hx,hi,rfl,rfl,rfl,FX,hlx⟩;have hi16:i<16:=by omega
    have q4:=FX.g4;have q9:=FX.g9;by_cases hlex:x<=rm.hi.x-bp.hi.x
    ·have lx:ah .leq (.int .i64 x) (.int .i64 (rm.hi.x-bp.hi.x))=some (.bool true):=kN hlex;have ax:ah .add (.int .i64 x) (.int .i64 1)=some (.int .i64 (x+1)):=lR (bZ (by omega) (by omega));have mx':=y6 hx hlex;have fx:=wm (rm.lo.x-bp.lo.x) i (uj a p bp t z y) hx;have WG:=FX.k.wf hr.wf;have hnG:=FX.k.next
     have hnq:=FX.nx;have q7:=FX.g7;have ka:=MY (b:=bp) hps;have kl:=HO (b:=bp) hps;have C3:=Fh F.li (h:={G with log:=[]}) (.of WG) hps (b:=bp) (x:=x) (y:=y) (z:=z) (by omega) (by omega) (by omega) pz1 pz2 (by omega) (by omega);have hls:IsS (kj p bp x y z):=mS hps _ _ _ _;have htry:uj a p bp t z y x=if sIn (kj p bp x y z) a then [⟨t,x,y,z,kj p bp x y z⟩]else []:=rfl
     have hmm:sIn (kj p bp x y z) a=true->(⟨t,x,y,z,kj p bp x y z⟩:Fi)∈iJ a b:=λhin=>by
      refine hmem _ (List.mem_flatMap.2 ⟨z,mz,List.mem_flatMap.2 ⟨y,my,List.mem_flatMap.2 ⟨x,mx',?_⟩⟩⟩);rw[htry,if_pos hin];exact List.mem_singleton.2 rfl
     generalize hDx:Dy++(zrN (rm.lo.x-bp.lo.x) i).flatMap (uj a p bp t z y)=Dx at*;generalize kj p bp x y z=ls at*;have kls:=aN hls.len;have kll:=aG hls.len;have klo:=bB ls;have klen:(us ls).length=8:=by rw[aA,hls.len]
     refine Y16 ?_;refine dI (E0:=[(0, .func (.yield l) #[] #[]),(1, .pointer (some ⟨qa,0,none⟩)),(2, .pointer (some ⟨qb,0,none⟩)),(4, .pointer (some ⟨h.next,0,none⟩)),(6, .int .i64 (t:Nat)),(7, .pointer (some ⟨q,0,none⟩)),(8, .pointer (some ⟨q+1,0,none⟩)),(9, .pointer (some ⟨q+1+1,0,none⟩)),(10, .int .i64 z),(11, .int .i64 y),(12, .int .i64 x),(13, .pointer (some ⟨G.next,0,none⟩)),(28, .int .i64 (t:Nat))]) (P:=λh'=>Ext G h'∧h'.next=G.next+1/\h'.get G.next=some (.cells (us ls) true 1)) ?_ ?_
     ·refine Y6 ?_;refine FW.pu C3 ?_;refine aB (tR) ?_;refine aB (aO (by exact rfl) (by exact rfl) YG (by assumption) (by exact rfl) (by exact bB _)) ?_;refine cN ?_;refine y1 ?_;exact⟨rfl,rfl,rfl,dO (by omega) _ _,rfl,fC _ _⟩
     clear C3 q4 q9 q7;rintro G' ⟨x',n',g13⟩;have FX':=FX.ext Y x' (by omega) hq0 hqh;have hP':=FX'.pd;have WG':=x'.wf WG;have gA:=ga _ _ hP';have C4:=CL hp F.f35 F.f121 (h:={G' with log:=[]}) (.of WG') hls ha;refine Y4 ?_;refine FW.pu C4 ?_;clear C4;cases hin:sIn ls a with
     |false=>
      rw[hin,if_neg (by simp)]at htry;refine Y21 ?_;refine⟨16-(i+1),by omega,i+1,x+1,by omega, .inr (by omega),rfl,rfl,rfl,?_,?_⟩
      ·rw[fx,htry,List.append_nil,hDx];exact FX'
      ·rw[fx,htry,List.append_nil,hDx];omega
     |true=>
      rw[hin,if_pos rfl]at htry;refine Y16 ?_;refine pY (fn:= .yield l) (args:=fiV ⟨t,x,y,z,ls⟩) (by rfl) ?_;refine Y.call hp (hmm hin) (by omega) WG' (by omega) (by omega) hq0 hP' ?_;intro h2 hk2 hd2 hP2 hkp hwr;refine Y13 ?_;refine⟨16-(i+1),by omega,i+1,x+1,by omega, .inr (by omega),rfl,rfl,rfl,?_,?_⟩
      ·rw[fx,htry,←List.append_assoc,hDx];exact FX'.step hk2 hd2 hP2 hkp hwr hqh
      ·rw[fx,htry,←List.append_assoc,hDx];have:=Gf (L:=([]:List Nat)) hlx (f:=⟨t,x,y,z,ls⟩);omega
    ·have lx:ah .leq (.int .i64 x) (.int .i64 (rm.hi.x-bp.hi.x))=some (.bool false):=mu (by omega);have hie:=zu (lo:=rm.lo.x-bp.lo.x) (hi:=rm.hi.x-bp.hi.x) (n:=i) (by omega) (by omega);have e:(zrN (rm.lo.x-bp.lo.x) i).flatMap (uj a p bp t z y)=sG a p rm bp t z y:=by rw[hie];rfl
     rw[e]at FX hlx;refine Y23 ?_;refine⟨16-(j+1),by omega,j+1,y+1,by omega, .inr (by omega),rfl,rfl,rfl,?_,?_⟩
     ·rw[fy,←List.append_assoc,hDy];exact FX
     ·rw[fy,←List.append_assoc,hDy];omega
   ·have ly:ah .leq (.int .i64 y) (.int .i64 (rm.hi.y-bp.hi.y))=some (.bool false):=mu (by omega);have hje:=zu (lo:=rm.lo.y-bp.lo.y) (hi:=rm.hi.y-bp.hi.y) (n:=j) (by omega) (by omega);refine Y23 ?_;refine⟨16-(n+1),by omega,n+1,z+1,by omega, .inr (by omega),rfl,rfl,rfl,?_⟩;rw[fz,←List.append_assoc];have e:(zrN (rm.lo.y-bp.lo.y) j).flatMap (sG a p rm bp t z)=u0 a p rm bp t z:=by rw[hje];rfl
    rw[e]at FX hly;rw[hDz];exact⟨FX,by omega⟩
  ·have lz:ah .leq (.int .i64 z) (.int .i64 (rm.hi.z-bp.hi.z))=some (.bool false):=mu (by omega);have hne:=zu (lo:=rm.lo.z-bp.lo.z) (hi:=rm.hi.z-bp.hi.z) (n:=n) (by omega) (by omega);have q4:=FX.g4;have q9:=FX.g9;refine Y22 ?_;rw[hne]at FX hlz;have FXT:FxL P W lo h q0 q rm bp p ((List.range (t+1)).flatMap (nZ a b)) G:=by rw[hT];exact FX
   have hlT:((List.range (t+1)).flatMap (nZ a b)).length<=(t+1)*4096:=by
    rw[hT];exact Nat.le_trans hlz (by omega)
   exact⟨24-(t+1),by omega,t+1,by omega,rfl,rfl,rfl,FXT.k,FXT.pd,by have:=FXT.nx;omega,FXT.g4,FXT.dm,FXT.w4,hlT⟩
 ·obtain rfl:t=24:=by omega
  rw[←hf]at hP hdm;refine Y9 ?_;exact Km (hk.log (by rw[hr.log];exact eG.nil _)) rfl ⟨rfl,hP,hdm⟩
def wY(a b:Nat):Int:=if a<b then -1 else if b<a then 1 else 0
def cmpL:List Nat->List Nat->Int
 |a::l,b::m=>if a<b then -1 else if b<a then 1 else cmpL l m
 |_,_=>0
theorem mR:∀l:List Nat,cmpL l l=0
 |[]=>rfl
 |a::l=>by
  unfold cmpL;rw[if_neg (Nat.lt_irrefl a),if_neg (Nat.lt_irrefl a)];exact mR l
theorem An:∀{l m:List Nat} {j x y:Nat},l.take j=m.take j->l[j]? =some x->m[j]? =some y->x≠y->cmpL l m=wY x y
 |[],_,j,x,y,_,h,_,_=>by simp at h
 |_::_,[],j,x,y,_,_,h,_=>by simp at h
 |a::l,b::m,0,x,y,_,h1,h2,h=>by
  simp at h1 h2;subst h1;subst h2;unfold cmpL wY;by_cases q:a<b
  ·rw[if_pos q,if_pos q]
  ·rw[if_neg q,if_neg q,if_pos (by omega),if_pos (by omega)]
 |a::l,b::m,j+1,x,y,ht,h1,h2,h=>by
  simp only[List.take_succ_cons,List.cons.injEq]at ht;obtain⟨rfl,ht⟩:=ht;unfold cmpL;rw[if_neg (Nat.lt_irrefl a),if_neg (Nat.lt_irrefl a)];exact An ht (by simpa using h1) (by simpa using h2) h
structure xq (T:Nat->Option af):Prop where
 p:aP T
 f191:T 191=some f191
 f256:T 256=some f256
 f315:T 315=some f315
theorem HK(F:xq T){h:Heap}(hr:Rdy h)(x:Nat):Pu T 315 [.int .u64 (x:Nat)] h (.bool false):=by
 refine .of F.p F.f315 hr rfl ?_;have m1:ah .neq (.int .u64 (x:Nat)) (.int .u64 (x:Nat))=some (.bool false):=by rw[DN];simp
 refine Y10 ?_;exact an hr.log rfl rfl
theorem Qd(F:xq T){h:Heap}(hr:Rdy h)(a b:Nat):Pu T 256 [.int .u64 (a:Nat), .int .u64 (b:Nat)] h (.int .i64 (wY a b)):=by
 refine .of F.p F.f256 hr rfl ?_;have C1:=HK F (h:={h with log:=[]}) (.of hr.wf) a;have C2:=HK F (h:={h with log:=[]}) (.of hr.wf) b;have hL:=hr.log;unfold wY;by_cases h1:a<b
 ·rw[if_pos h1];have m1:ah .lss (.int .u64 (a:Nat)) (.int .u64 (b:Nat))=some (.bool true):=dz (by omega);refine Y6 ?_;refine FW.pu C1 ?_;refine Y5 ?_;refine FW.pu C2 ?_;refine Y28 ?_;exact an hL rfl rfl
 ·rw[if_neg h1];have m1:ah .lss (.int .u64 (a:Nat)) (.int .u64 (b:Nat))=some (.bool false):=dA (by omega);by_cases h2:b<a
  ·rw[if_pos h2];have m2:ah .gtr (.int .u64 (a:Nat)) (.int .u64 (b:Nat))=some (.bool true):=ic (by omega);refine Y6 ?_;refine FW.pu C1 ?_;refine Y5 ?_;refine FW.pu C2 ?_;refine Y37 ?_;exact an hL rfl rfl
  ·rw[if_neg h2];have m2:ah .gtr (.int .u64 (a:Nat)) (.int .u64 (b:Nat))=some (.bool false):=ij (by omega);refine Y6 ?_;refine FW.pu C1 ?_;refine Y5 ?_;refine FW.pu C2 ?_;refine Y38 ?_;exact an hL rfl rfl
theorem uJ(F:xq T){h:Heap}(hr:Rdy h){p q c c2:Nat}{a b:List Nat}(ha:IsS a)(hb:IsS b)(ga:h.get p=some (.cells (us a) true 1))(gb:h.get q=some (.cells (us b) true 1)):
 Pu T 191 [.slice (some ⟨p,0,none⟩) 8 c, .slice (some ⟨q,0,none⟩) 8 c2] h (.int .i64 (cmpL a b)):=by
 refine .of F.p F.f191 hr rfl ?_;have hL:=hr.log;refine Y10 ?_
 refine bD (λm e ds h'=>∃j:Nat,j<=8/\8-j=m/\e=[(0, .slice (some ⟨p,0,none⟩) 8 c),(1, .slice (some ⟨q,0,none⟩) 8 c2),(9, .slice (some ⟨p,0,none⟩) 8 c),(10, .int .i64 8),(11, .int .i64 (j:Nat))]/\ds=[]/\h=h'∧a.take j=b.take j)
  ⟨0,Nat.zero_le _,rfl,rfl,rfl,rfl,rfl⟩ ?_
 rintro m e ds h' ⟨j,hj,rfl,rfl,rfl,rfl,heq⟩;by_cases hlt:j<8
 ·obtain⟨x,hx⟩:∃x,a[j]? =some x:=⟨a[j]'(by rw[ha.len];exact hlt),List.getElem?_eq_getElem _⟩;obtain⟨y,hy⟩:∃x,b[j]? =some x:=⟨b[j]'(by rw[hb.len];exact hlt),List.getElem?_eq_getElem _⟩;have e1:=iw hx;have e2:=iw hy;have C:=Qd F (h:={h with log:=[]}) (.of hr.wf) x y;have m1:ah .lss (.int .i64 (j:Nat)) (.int .i64 8)=some (.bool true):=dz (by omega);have m2:ah .geq (.int .i64 (j:Nat)) (.int .i64 8)=some (.bool false):=zM (by omega);by_cases hxy:x=y
  ·have e3:wY x y=0:=by subst hxy;unfold wY;rw[if_neg (Nat.lt_irrefl x),if_neg (Nat.lt_irrefl x)]
   rw[e3]at C;have m3:ah .neq (.int .i64 0) (.int .i64 0)=some (.bool false):=rfl;refine Y37 ?_;refine FW.pu C ?_;refine Y14 ?_;refine⟨8-(j+1),by omega,j+1,by omega,rfl,rfl,rfl,rfl,?_⟩;rw[List.take_add_one,List.take_add_one,heq,hx,hy,hxy]
  ·have e3:wY x y≠0:=by
    unfold wY;split
    ·decide
    ·rw[if_pos (by omega)];decide
   have e4:=An heq hx hy hxy;have m3:ah .neq (.int .i64 (wY x y)) (.int .i64 0)=some (.bool true):=j6 e3;rw[e4];refine Y37 ?_;refine FW.pu C ?_;refine Y17 ?_;exact an hL rfl rfl
 ·obtain rfl:j=8:=by omega
  have hab:a=b:=by
   rw[List.take_of_length_le (by rw[ha.len];omega),List.take_of_length_le (by rw[hb.len];omega)]at heq;exact heq
  rw[hab,mR];have m1:ah .lss (.int .i64 ((8:Nat):Int)) (.int .i64 8)=some (.bool false):=rfl;refine Y25 ?_;exact an hL rfl rfl
theorem L7(F:xq T)(hf:T 168=some f168){h:Heap}(hr:Rdy h){a b:List Nat}(ha:IsS a)(hb:IsS b):Pu T 168 [sv a,sv b] h (.int .i64 (cmpL a b)):=by
 refine .of F.p hf hr rfl ?_;have x0:Ext h ((h.push (.cells (cellsOf (sv a)) true 1)).push (.cells (cellsOf (sv b)) true 1)):=((Ext.refl h).push _).push _;have g0:((h.push (.cells (cellsOf (sv a)) true 1)).push (.cells (cellsOf (sv b)) true 1)).get h.next=some (.cells (us a) true 1):=YG
 have g1:((h.push (.cells (cellsOf (sv a)) true 1)).push (.cells (cellsOf (sv b)) true 1)).get (h.next+1)=some (.cells (us b) true 1):=YG;refine Y5 ?_;generalize((h.push (.cells (cellsOf (sv a)) true 1)).push (.cells (cellsOf (sv b)) true 1))=H at*;have W:=x0.wf hr.wf;have hL:=x0.log.trans hr.log;have C:=λc c2=>uJ F (h:={H with log:=[]}) (.of W) (c:=c) (c2:=c2) ha hb g0 g1;refine Y2 ?_;refine aU rfl rfl rfl (by exact rfl) (by exact rfl) (by exact rfl) (nT (i:=0) (j:=8) (by exact rfl) (by exact rfl) (by exact rfl) (by omega) (by omega) (by omega) (by omega)) ?_;refine aU rfl rfl rfl (by exact rfl) (by exact rfl) (by exact rfl) (nT (i:=0) (j:=8) (by exact rfl) (by exact rfl) (by exact rfl) (by omega) (by omega) (by omega) (by omega)) ?_;skip;refine qC ?_;refine FW.puD (C _ _) (by(repeat apply aI rfl);exact bg) ?_;refine Y5 ?_;exact an hL rfl rfl
theorem Mw(F:xq T)(hf:T 190=some f190){h:Heap}(hr:Rdy h){a b:List Nat}(ha:IsS a)(hb:IsS b):Pu T 190 [sv a,sv b] h (.int .i64 (cmpL a b)):=by
 refine .of F.p hf hr rfl ?_;have x0:Ext h ((h.push (.cells (cellsOf (sv a)) true 1)).push (.cells (cellsOf (sv b)) true 1)):=((Ext.refl h).push _).push _;have g0:((h.push (.cells (cellsOf (sv a)) true 1)).push (.cells (cellsOf (sv b)) true 1)).get h.next=some (.cells (us a) true 1):=YG
 have g1:((h.push (.cells (cellsOf (sv a)) true 1)).push (.cells (cellsOf (sv b)) true 1)).get (h.next+1)=some (.cells (us b) true 1):=YG;refine Y5 ?_;generalize((h.push (.cells (cellsOf (sv a)) true 1)).push (.cells (cellsOf (sv b)) true 1))=H at*;have W:=x0.wf hr.wf;have hL:=x0.log.trans hr.log;have C:=λc c2=>uJ F (h:={H with log:=[]}) (.of W) (c:=c) (c2:=c2) ha hb g0 g1;refine Y2 ?_;refine aU rfl rfl rfl (by exact rfl) (by exact rfl) (by exact rfl) (nT (i:=0) (j:=8) (by exact rfl) (by exact rfl) (by exact rfl) (by omega) (by omega) (by omega) (by omega)) ?_;refine aU rfl rfl rfl (by exact rfl) (by exact rfl) (by exact rfl) (nT (i:=0) (j:=8) (by exact rfl) (by exact rfl) (by exact rfl) (by omega) (by omega) (by omega) (by omega)) ?_;skip;refine qC ?_;refine FW.puD (C _ _) (by(repeat apply aI rfl);exact bg) ?_;refine Y5 ?_;exact an hL rfl rfl
end Go.A.Pk
end
section
namespace Go.A.Pk
variable {T:Nat->Option af}
def fnF(p q:Nat):Value:= .func (.func 209) #[] #[.pointer (some ⟨p,0,none⟩), .pointer (some ⟨q,0,none⟩)]
structure NC (T:Nat->Option af):Prop where
 ft:Nz T
 f34:T 34=some f34
 f120:T 120=some f120
theorem MD(F:NC T){h:Heap}(hr:Rdy h){a b:List Nat}(ha:IsS a)(hb:IsS b):
 Al T 120 [sv a,sv b] h λv h'=>∃p q,v=fnF p q/\h'.get p=some (.cells (us a) true 1)/\h'.get q=some (.cells (us b) true 1)/\p<h'.next/\q<h'.next/\h.next<=p/\h.next<=q:=by
 refine .of F.ft.li.p F.f120 hr ?_ ?_
 ·rintro v h1 hv ⟨p,q,rfl,_⟩;cases hv
 refine Y10 ?_;exact cK hr.log rfl ⟨h.next,h.next+1,rfl,YG,YG,by show h.next<h.next+2;omega,by show h.next+1<h.next+2;omega,Nat.le_refl _,Nat.le_succ _⟩
section
open I
end
end Go.A.Pk
end
