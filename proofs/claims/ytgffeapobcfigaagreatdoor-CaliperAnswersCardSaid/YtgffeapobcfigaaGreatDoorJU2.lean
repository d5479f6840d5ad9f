/- Walks of functions, plain laws, the table. -/
import Derived.Test.YtgffeapobcfigaaGreatDoorJU1
import Derived.Test.YtgffeapobcfigaaGreatDoorJU0
import Derived.Test.YtgffeapobcfigaaGreatDoorJF
import Derived.Test.YtgffeapobcfigaaGreatDoorJD
import Derived.Sort.Row
import Derived.Sort.Grow
import Derived.Test.YtgffeapobcfigaaGreatDoorJV
set_option linter.all false
set_option maxHeartbeats 16000000
set_option maxRecDepth 100000
section
namespace Go.A.Pk
theorem sO{a b:List Nat}(ha:IsS a)(hb:IsS b)(c:Ce):dN (kN a b) c=(dN a c&&dN b c):=by
 by_cases hc:inG c=true
 ·obtain⟨z,i,hz,hi,rfl⟩:=gV hc;rw[eU hz hi,eU hz hi,eU hz hi];unfold kN pJ;rw[uG ha hb hz];exact Nat.testBit_and ..
 ·rw[fG hc,fG hc,fG hc];rfl
theorem tO{a b:List Nat}(ha:IsS a)(hb:IsS b)(h:∀z i,z<8->i<64->dN a (fq z i)=dN b (fq z i)):a=b:=by
 apply List.ext_getElem?;intro z;rcases Nat.lt_or_ge z 8 with hz|hz
 ·rw[jV (by rw[ha.len];exact hz),jV (by rw[hb.len];exact hz)];congr 1;apply Nat.eq_of_testBit_eq;intro i;rcases Nat.lt_or_ge i 64 with hi|hi
  ·have:=h z i hz hi
   rwa [eU hz hi,eU hz hi]at this
  ·have big:∀x:Nat,x<U64->x.testBit i=false:=λx hx=>Nat.testBit_lt_two_pow (Nat.lt_of_lt_of_le hx (show 2 ^ 64<=2 ^ i from Nat.pow_le_pow_right (by omega) hi));rw[big _ (ha.jW z),big _ (hb.jW z)]
 ·rw[List.getElem?_eq_none (by rw[ha.len];exact hz),List.getElem?_eq_none (by rw[hb.len];exact hz)]
theorem Gg{z i:Nat}(hz:z<8)(hi:i<64):fq z i∈(List.range 512).map ceN:=by
 rw[←xQ hi];exact List.mem_map_of_mem (List.mem_range.2 (by omega))
def mlo(f:Ce->Int)(m:Int)(l:List Ce):Int:=l.foldl (λm c=>mi m (f c)) m
def mhi(f:Ce->Int)(m:Int)(l:List Ce):Int:=l.foldl (λm c=>mx m (f c)) m
theorem NC(a b:Int):mi a b<=a:=by unfold mi;split<;>omega
theorem ND(a b:Int):mi a b<=b:=by unfold mi;split<;>omega
theorem NG(a b:Int):a<=mx a b:=by unfold mx;split<;>omega
theorem NH(a b:Int):b<=mx a b:=by unfold mx;split<;>omega
theorem Qx{k a b:Int}(h1:k<=a)(h2:k<=b):k<=mi a b:=by unfold mi;split<;>omega
theorem Qy{k a b:Int}(h1:a<=k)(h2:b<=k):mx a b<=k:=by unfold mx;split<;>omega
theorem yz(f:Ce->Int):∀(l:List Ce) (m:Int),mlo f m l<=m/\∀c∈l,mlo f m l<=f c
 |[],m=>⟨Int.le_refl _,λc hc=>by cases hc⟩
 |c::l,m=>by
  obtain⟨h1,h2⟩:=yz f l (mi m (f c));refine⟨Int.le_trans h1 (NC _ _),λd hd=> ?_⟩;rcases List.mem_cons.1 hd with rfl|hd
  ·exact Int.le_trans h1 (ND _ _)
  ·exact h2 d hd
theorem yy(f:Ce->Int){k:Int}:∀(l:List Ce) (m:Int),k<=m->(∀c∈l,k<=f c)->k<=mlo f m l
 |[],_,h,_=>h
 |c::l,m,h,hl=>yy f l (mi m (f c)) (Qx h (hl c List.mem_cons_self)) λd hd=>hl d (List.mem_cons_of_mem _ hd)
theorem yw(f:Ce->Int):∀(l:List Ce) (m:Int),m<=mhi f m l/\∀c∈l,f c<=mhi f m l
 |[],m=>⟨Int.le_refl _,λc hc=>by cases hc⟩
 |c::l,m=>by
  obtain⟨h1,h2⟩:=yw f l (mx m (f c));refine⟨Int.le_trans (NG _ _) h1,λd hd=> ?_⟩;rcases List.mem_cons.1 hd with rfl|hd
  ·exact Int.le_trans (NH _ _) h1
  ·exact h2 d hd
theorem yx(f:Ce->Int){k:Int}:∀(l:List Ce) (m:Int),m<=k->(∀c∈l,f c<=k)->mhi f m l<=k
 |[],_,h,_=>h
 |c::l,m,h,hl=>yx f l (mx m (f c)) (Qy h (hl c List.mem_cons_self)) λd hd=>hl d (List.mem_cons_of_mem _ hd)
theorem CU:∀(l:List Ce) (b:Bx),l.foldl zR b=⟨⟨mlo (·.x) b.lo.x l,mlo (·.y) b.lo.y l,mlo (·.z) b.lo.z l⟩,⟨mhi (·.x) b.hi.x l,mhi (·.y) b.hi.y l,mhi (·.z) b.hi.z l⟩⟩
 |[],b=>rfl
 |c::l,b=>by rw[List.foldl_cons,CU l (zR b c)];rfl
theorem BE(l:List Ce):bxS l=⟨⟨mlo (·.x) 7 l,mlo (·.y) 7 l,mlo (·.z) 7 l⟩,⟨mhi (·.x) 0 l,mhi (·.y) 0 l,mhi (·.z) 0 l⟩⟩:=CU l bx0
def Sub(a b:List Nat):Prop:=∀c,dN a c=true->dN b c=true
theorem filter_le{α:Type}{p q:α->Bool}(h:∀x,p x=true->q x=true):∀l:List α,(l.filter p).length<=(l.filter q).length
 |[]=>Nat.le_refl _
 |x::l=>by
  have ih:=filter_le h l;rw[List.filter_cons,List.filter_cons];by_cases hp:p x=true
  ·rw[if_pos hp,if_pos (h x hp)];simpa using ih
  ·rw[if_neg hp];split
   ·exact Nat.le_succ_of_le ih
   ·exact ih
theorem Sub.cnt{a b:List Nat}(h:Sub a b):dJ a<=dJ b:=filter_le h _
theorem dF{a b:List Nat}(ha:IsS a)(hb:IsS b):sIn a b=true↔Sub a b:=by
 unfold sIn;rw[decide_eq_true_eq];constructor
 ·intro h c hc;have e:dN (kN a b) c=dN a c:=by rw[h]
  rw[sO ha hb,hc,Bool.true_and]at e;exact e
 ·intro h;refine tO (ha.meet hb) ha λz i hz hi=> ?_;rw[sO ha hb];cases hc:dN a (fq z i)with
  |false=>rfl
  |true=>rw[h _ hc];rfl
end Go.A.Pk
end
section
namespace Go.A.Pk
variable {T:Nat->Option af}
theorem CZ(F:CK T)(hf:T 84=some f84){h:Heap}(hr:Rdy h){s:List Nat}(hs:IsS s):Pu T 84 [sv s] h (.int .i64 ((dJ s:Nat):Int)):=by
 refine .of F.hr.p hf hr rfl ?_;have k8:=aO hs.len;have k9:=bn hs.len;have x0:Ext h (h.push (.cells (cellsOf (sv s)) true 1)):=(Ext.refl h).push _;have g0:(h.push (.cells (cellsOf (sv s)) true 1)).get h.next=some (.cells (us s) true 1):=z3 h _
 refine Y4 ?_;generalize(h.push (.cells (cellsOf (sv s)) true 1))=H at*;have W:=x0.wf hr.wf;have hL:=x0.log.trans hr.log;have hle:=kA s 512;have C:=Gh F (h:={H with log:=[]}) (.of W) hs;unfold dJ;refine Y3 ?_;refine FW.al C (λv h' m q=>q.log m) ?_;rintro v H1 x1 q;clear C;have hL1:=x1.log.trans hL;obtain⟨a,c,rfl⟩:=(q.slice (by omega)).form;refine Y4 ?_;exact aA hL1 rfl rfl
structure MT (T:Nat->Option af):Prop where
 cr:CK T
 f137:T 137=some f137
 f139:T 139=some f139
 f221:T 221=some f221
 f222:T 222=some f222
 f223:T 223=some f223
 f224:T 224=some f224
 f267:T 267=some f267
theorem LK(s:List Nat)(n:Int):cg (.tuple #[sv s, .int .i64 n])=true:=by
 have q:flat (sv s)=true:=rN s;show gI [sv s, .int .i64 n]=true;simp only[gI,q,cond_true];rfl
theorem gN{α:Type}{l:List α}{j:Nat}{x:α}(h:l[j]? =some x):l.take (j+1)=l.take j++[x]:=by
 rw[List.take_add_one,h];rfl
def shC(x y z:Int)(c:Ce):Ce:=⟨c.x+x,c.y+y,c.z+z⟩
theorem DX{s:List Nat}(hs:IsS s)(h:bt s 512=[]):s=s0:=by
 refine tO hs xg λz i hz hi=> ?_;rw[rK];cases hc:dN s (fq z i)with
 |false=>rfl
 |true=>
  have:fq z i∈bt s 512:=List.mem_filter.2 ⟨List.mem_map.2 ⟨z*64+i,List.mem_range.2 (by omega),xQ hi⟩,hc⟩;rw[h]at this;cases this
end Go.A.Pk
end
section
namespace Go.A.Pk
theorem zU{z i z' i':Nat}(h:fq z i=fq z' i'):z=z'∧i=i':=by
 unfold fq at h;injection h with h1 h2 h3
 omega
theorem Lj{o:List Nat}(ho:IsS o){d:Ce}(hd:inG d=true)(c:Ce):dN (qj o d) c=(dN o c||decide (c=d)):=by
 by_cases hc:inG c=true
 ·obtain⟨z,i,hz,hi,rfl⟩:=gV hc;obtain⟨m,j,hm,hj,rfl⟩:=gV hd;rw[eU hz hi,eU hz hi,za o hj];by_cases e:m=z
  ·subst e;have e1:(o.set m (Nat.lor (o.getD m 0) (2 ^ j))).getD m 0=Nat.lor (o.getD m 0) (2 ^ j):=by
    rw[List.getD_eq_getElem?_getD,List.getElem?_set_self (by rw[ho.len];exact hm)];rfl
   rw[e1];show Nat.testBit (o.getD m 0|||2 ^ j) i=_;rw[Nat.testBit_or,Nat.testBit_two_pow];congr 1;by_cases e2:j=i
   ·subst e2;simp
   ·rw[decide_eq_false e2,decide_eq_false (λq=>e2 (zU q).2.symm)]
  ·have e1:(o.set m (Nat.lor (o.getD m 0) (2 ^ j))).getD z 0=o.getD z 0:=by
    rw[List.getD_eq_getElem?_getD,List.getElem?_set_ne e,←List.getD_eq_getElem?_getD]
   rw[e1,decide_eq_false (λq=>e (zU q).1.symm),Bool.or_false]
 ·rw[fG hc,fG hc,decide_eq_false (λ(q:c=d)=>hc (by rw[q];exact hd))];rfl
theorem Hr{f:Ce->Ce}(c:Ce):∀{l:List Ce},(∀x∈l,inG (f x)=true)->(dN (uQ f l) c=true↔ ∃x∈l,f x=c):=by
 intro l;have:∀(l:List Ce) (o:List Nat),IsS o->(∀x∈l,inG (f x)=true)->(dN (l.foldl (λo c=>qj o (f c)) o) c=true↔dN o c=true∨∃x∈l,f x=c):=by
  intro l;induction l with
  |nil=>intro o _ _;simp
  |cons d l ih=>
   intro o ho hl;rw[List.foldl_cons,ih _ (ho.qj (hl d List.mem_cons_self)) λx hx=>hl x (List.mem_cons_of_mem _ hx),Lj ho (hl d List.mem_cons_self),Bool.or_eq_true,decide_eq_true_eq];constructor
   ·rintro((h|h)|⟨x,hx,h⟩)
    ·exact .inl h
    ·exact .inr ⟨d,List.mem_cons_self,h.symm⟩
    ·exact .inr ⟨x,List.mem_cons_of_mem _ hx,h⟩
   ·rintro(h|⟨x,hx,h⟩)
    ·exact .inl (.inl h)
    ·rcases List.mem_cons.1 hx with rfl|hx
     ·exact .inl (.inr h.symm)
     ·exact .inr ⟨x,hx,h⟩
 intro hl;have e:=this l s0 xg hl;rw[rK]at e;simpa[uQ]using e
theorem dM{s:List Nat}{c:Ce}:c∈bt s 512↔dN s c=true:=by
 constructor
 ·intro h;exact(List.mem_filter.1 h).2
 ·intro h;have hc:inG c=true:=by
   cases hq:inG c with
   |true=>rfl
   |false=>rw[fG (by rw[hq];simp)]at h;cases h
  obtain⟨z,i,hz,hi,rfl⟩:=gV hc;exact List.mem_filter.2 ⟨Gg hz hi,h⟩
theorem rD{f:Ce->Ce}{s:List Nat}(h:∀x∈bt s 512,inG (f x)=true)(c:Ce):dN (lM f s) c=true↔ ∃x,dN s x=true/\f x=c:=by
 unfold lM;rw[Hr c h];constructor
 ·rintro⟨x,hx,e⟩;exact⟨x,dM.1 hx,e⟩
 ·rintro⟨x,hx,e⟩;exact⟨x,dM.2 hx,e⟩
theorem LA{p:Nat}{k:Int}{i:Nat}(hi:i<64):Nat.testBit (shP p k) i=(decide (0<=(i:Int)-k)&&Nat.testBit p ((i:Int)-k).toNat):=by
 unfold shP;split
 ·rename_i h;show Nat.testBit ((p<<<k.toNat) % 2 ^ 64) i=_;rw[Nat.testBit_mod_two_pow,decide_eq_true hi,Bool.true_and,Nat.testBit_shiftLeft];by_cases hk:k.toNat<=i
  ·rw[decide_eq_true (show i≥k.toNat from hk),decide_eq_true (show 0<=(i:Int)-k by omega),show((i:Int)-k).toNat=i-k.toNat by omega]
  ·rw[decide_eq_false (show¬i≥k.toNat from hk),decide_eq_false (show¬0<=(i:Int)-k by omega)];rfl
 ·rename_i h;show Nat.testBit (p>>>(-k).toNat) i=_;rw[Nat.testBit_shiftRight,decide_eq_true (show 0<=(i:Int)-k by omega),show((i:Int)-k).toNat=(-k).toNat+i by omega];rfl
theorem uN{s:List Nat}(hs:IsS s){a:Nat}{z k:Int}:∀{n:Nat},0<=(a:Int)+z->(a:Int)+z+(n:Nat)<=8->∀m:Nat,m<8→
 (jE s a z k n).getD m 0=if(a:Int)+z<=(m:Int)/\(m:Int)<(a:Int)+z+(n:Nat)then shP (s.getD ((m:Int)-z).toNat 0) k else 0
 |0,_,_,m,hm=>by
  rw[if_neg (by omega)];have:∀z:Fin 8,s0.getD z.val 0=0:=by decide
  exact this ⟨m,hm⟩
 |n+1,h1,h2,m,hm=>by
  have ih:=uN (k:=k) hs (n:=n) h1 (by omega) m hm;unfold jE;by_cases e:(((a+n:Nat):Int)+z).toNat=m
  ·rw[List.getD_eq_getElem?_getD,e,List.getElem?_set_self (by rw[(kG hs a z k n).len];exact hm),if_pos (by omega)];show shP (s.getD (a+n) 0) k=_;rw[show((m:Int)-z).toNat=a+n by omega]
  ·rw[List.getD_eq_getElem?_getD,List.getElem?_set_ne e,←List.getD_eq_getElem?_getD,ih];by_cases q:(a:Int)+z<=(m:Int)/\(m:Int)<(a:Int)+z+(n:Nat)
   ·rw[if_pos q,if_pos (by omega)]
   ·rw[if_neg q,if_neg (by omega)]
theorem J9{x i:Nat}(hx:x<U64)(h:x.testBit i=true):i<64:=by
 rcases Nat.lt_or_ge i 64 with hi|hi
 ·exact hi
 ·rw[Nat.testBit_lt_two_pow (Nat.lt_of_lt_of_le hx (show 2 ^ 64<=2 ^ i from Nat.pow_le_pow_right (by omega) hi))]at h;cases h
theorem qQ{s:List Nat}{c:Ce}(h:dN s c=true):((dA s).1.lo.x<=c.x/\c.x<=(dA s).1.hi.x)/\((dA s).1.lo.y<=c.y/\c.y<=(dA s).1.hi.y)/\((dA s).1.lo.z<=c.z/\c.z<=(dA s).1.hi.z):=by
 have hc:=dM.2 h;have h0:¬s=s0:=λq=>by rw[q,rK]at h;cases h
 have e:(dA s).1=bxS (bt s 512):=by unfold dA;rw[if_neg h0]
 rw[e,BE];exact⟨⟨(yz (·.x) _ 7).2 c hc,(yw (·.x) _ 0).2 c hc⟩,⟨(yz (·.y) _ 7).2 c hc,(yw (·.y) _ 0).2 c hc⟩,⟨(yz (·.z) _ 7).2 c hc,(yw (·.z) _ 0).2 c hc⟩⟩
theorem M7{s:List Nat}(h0:¬s=s0){x y z:Int}(hx:x<=7)(hy:y<=7)(hz:z<=7)(h:∀c,dN s c=true->x<=c.x/\y<=c.y/\z<=c.z):x<=(dA s).1.lo.x/\y<=(dA s).1.lo.y/\z<=(dA s).1.lo.z:=by
 have e:(dA s).1=bxS (bt s 512):=by unfold dA;rw[if_neg h0]
 rw[e,BE];exact⟨yy (·.x) _ 7 hx λc hc=>(h c (dM.1 hc)).1,yy (·.y) _ 7 hy λc hc=>(h c (dM.1 hc)).2.1,yy (·.z) _ 7 hz λc hc=>(h c (dM.1 hc)).2.2⟩
theorem M8{s:List Nat}(h0:¬s=s0){x y z:Int}(hx:0<=x)(hy:0<=y)(hz:0<=z)(h:∀c,dN s c=true->c.x<=x/\c.y<=y/\c.z<=z):(dA s).1.hi.x<=x/\(dA s).1.hi.y<=y/\(dA s).1.hi.z<=z:=by
 have e:(dA s).1=bxS (bt s 512):=by unfold dA;rw[if_neg h0]
 rw[e,BE];exact⟨yx (·.x) _ 0 hx λc hc=>(h c (dM.1 hc)).1,yx (·.y) _ 0 hy λc hc=>(h c (dM.1 hc)).2.1,yx (·.z) _ 0 hz λc hc=>(h c (dM.1 hc)).2.2⟩
theorem GF{s:List Nat}{c:Ce}(h:dN s c=true):inG c=true:=by
 cases hq:inG c with
 |true=>rfl
 |false=>rw[fG (by rw[hq];simp)]at h;cases h
theorem xy{s:List Nat}(hs:IsS s)(h0:¬s=s0):∃c,dN s c=true:=by
 cases hl:bt s 512 with
 |nil=>exact absurd (DX hs hl) h0
 |cons c l=>exact⟨c,dM.1 (by rw[hl];exact List.mem_cons_self)⟩
structure Rng (b:Bx) (x y z:Int):Prop where
 x:0<=b.lo.x+x/\b.hi.x+x<=7
 y:0<=b.lo.y+y/\b.hi.y+y<=7
 z:0<=b.lo.z+z/\b.hi.z+z<=7
theorem Rng.all{s:List Nat}{x y z:Int}(r:Rng (dA s).1 x y z){c:Ce}(h:dN s c=true):inG (shC x y z c)=true:=by
 obtain⟨h1,h2,h3⟩:=qQ h;obtain⟨r1,r2,r3⟩:=r;refine mO.2 ⟨?_,?_,?_⟩<;>(unfold shC;dsimp only;omega)
theorem G9{s:List Nat}(hs:IsS s){x y z:Int}(r:Rng (dA s).1 x y z){m i:Nat}(hm:m<8)(hi:i<64):
 dN (iu s (dA s).1 x y z) (fq m i)=true↔ ∃c,dN s c=true/\shC x y z c=fq m i:=by
 have hall:∀c,dN s c=true->inG (shC x y z c)=true:=λc hc=>r.all hc;have hbx:=λc hc=> @qQ s c hc;obtain⟨⟨bl1,bl2,bl3⟩,⟨bh1,bh2,bh3⟩⟩:=jU s;obtain⟨_,_,r3⟩:=r;unfold iu;generalize(dA s).1=b at*;rw[eU hm hi];by_cases hlh:b.lo.z<=b.hi.z
 ·rw[uN hs (by omega) (by omega) m hm];have hcond:((b.lo.z.toNat:Int)+z<=(m:Int)/\(m:Int)<(b.lo.z.toNat:Int)+z+((b.hi.z-b.lo.z+1).toNat:Nat))↔(b.lo.z+z<=m/\(m:Int)<=b.hi.z+z):=by omega
  by_cases hq:b.lo.z+z<=m/\(m:Int)<=b.hi.z+z
  ·rw[if_pos (hcond.2 hq),LA hi,Bool.and_eq_true,decide_eq_true_eq];constructor
   ·rintro⟨h1,h2⟩;have hi':=J9 (hs.jW _) h2;have hm':((m:Int)-z).toNat<8:=by omega
    have hc:dN s (fq ((m:Int)-z).toNat ((i:Int)-(8*y+x)).toNat)=true:=by rw[eU hm' hi'];exact h2
    refine⟨_,hc,?_⟩;obtain⟨q1,q2,q3⟩:=mO.1 (hall _ hc);unfold shC fq at q1 q2 q3⊢;dsimp only at q1 q2 q3⊢;congr 1<;>omega
   ·rintro⟨c,hc,e⟩;obtain⟨m',i',hm',hi',rfl⟩:=gV (GF hc);rw[eU hm' hi']at hc;unfold shC fq at e;injection e with e1 e2 e3
    dsimp only at e1 e2 e3;have e4:((m:Int)-z).toNat=m':=by omega
    have e5:((i:Int)-(8*y+x)).toNat=i':=by omega
    rw[e4,e5];exact⟨by omega,hc⟩
  ·rw[if_neg (λq=>hq (hcond.1 q)),Nat.zero_testBit];constructor
   ·intro h;cases h
   ·rintro⟨c,hc,e⟩;obtain⟨_,_,h3⟩:=hbx c hc;unfold shC fq at e;injection e with e1 e2 e3
    exact absurd ⟨by omega,by omega⟩ hq
 ·have hno:∀c,¬dN s c=true:=λc hc=>by have:=(hbx c hc).2.2;omega
  rw[show(b.hi.z-b.lo.z+1).toNat=0 by omega];constructor
  ·intro h;unfold jE at h;have:∀z:Fin 8,s0.getD z.val 0=0:=by decide
   rw[this ⟨m,hm⟩,Nat.zero_testBit]at h;cases h
  ·rintro⟨c,hc,_⟩;exact absurd hc (hno c)
theorem uR{s:List Nat}{x y z:Int}(r:Rng (dA s).1 x y z):IsS (lM (shC x y z) s):=Dp λc hc=>r.all (dM.1 hc)
theorem Dl{s:List Nat}(hs:IsS s){x y z:Int}(r:Rng (dA s).1 x y z):iu s (dA s).1 x y z=lM (shC x y z) s:=by
 refine tO (kG hs _ _ _ _) (uR r) λm i hm hi=> ?_;have e1:=G9 hs r hm hi;have e2:=rD (f:=shC x y z) (s:=s) (λc hc=>r.all (dM.1 hc)) (fq m i);cases h1:dN (iu s (dA s).1 x y z) (fq m i)with
 |true=>rw[e2.2 (e1.1 h1)]
 |false=>
  cases h2:dN (lM (shC x y z) s) (fq m i)with
  |false=>rfl
  |true=>rw[e1.2 (e2.1 h2)]at h1;cases h1
theorem zI{lo hi z:Int}:z∈zr lo hi↔lo<=z/\z<=hi:=by
 constructor
 ·intro h;obtain⟨n,hn,rfl⟩:=List.mem_map.1 h;have:=List.mem_range.1 hn;omega
 ·rintro⟨h1,h2⟩;exact qx (n:=(z-lo).toNat) (by omega) h2
end Go.A.Pk
end
section
namespace Go.A.Pk
variable {T:Nat->Option af}
structure OY (T:Nat->Option af):Prop where
 tr:MT T
 f51:T 51=some f51
 f52:T 52=some f52
 f84:T 84=some f84
 f138:T 138=some f138
 f140:T 140=some f140
 f225:T 225=some f225
def ssL(l:List (List Nat)):List Value:=l.flatMap us
structure SsQ (h:Heap) (v:Value) (l:List (List Nat)):Prop where
 sl:bY h 8 v l.length (ssL l)
 ok:∀s∈l,IsS s
theorem SsQ.ext{h h':Heap}{v:Value}{l:List (List Nat)}(s:SsQ h v l)(x:Ext h h'):SsQ h' v l:=⟨s.sl.ext x,s.ok⟩
theorem SsQ.log{h:Heap}{v:Value}{l:List (List Nat)}(s:SsQ h v l)(m:List Nat):SsQ {h with log:=m} v l:=⟨s.sl.log m,s.ok⟩
theorem DL:∀{l:List (List Nat)} {i:Nat} {x:List Nat},(∀s∈l,IsS s)->l[i]? =some x->((ssL l).drop (i*8)).take 8=us x
 |[],i,x,_,h=>by simp at h
 |c::l,0,x,hl,h=>by
  simp at h;subst h;have e:ssL (c::l)=us c++ssL l:=rfl;have e8:(us c).length=8:=by rw[aD,(hl c List.mem_cons_self).len]
  rw[e,Nat.zero_mul,List.drop_zero,List.take_append_of_le_length (by omega),List.take_of_length_le (by omega)]
 |c::l,i+1,x,hl,h=>by
  have e:ssL (c::l)=us c++ssL l:=rfl;have e8:(us c).length=8:=by rw[aD,(hl c List.mem_cons_self).len]
  have e2:(us c++ssL l).drop 8=ssL l:=by rw[←e8];exact List.drop_left
  rw[e,show(i+1)*8=8+i*8 by omega,←List.drop_drop,e2];exact DL (λs hs=>hl s (List.mem_cons_of_mem _ hs)) (by simpa using h)
theorem SsQ.elem{h:Heap}{v:Value}{l:List (List Nat)}(s:SsQ h v l){i:Nat}{x:List Nat}(hi:l[i]? =some x):
 ∃b o c vs own t,v= .slice (some ⟨b,o,none⟩) l.length c/\h.get b=some (.cells vs own t)/\b<h.next/\cu 8 (bM (o+i*8) vs)=us x:=by
 have hlt:=(List.getElem?_eq_some_iff.1 hi).1;rcases bY.inv s.sl with⟨_,_,h0,_⟩|⟨b,o,cap,hv,s1,hc⟩
 ·omega
 ·obtain⟨vs,own,t,g1,g2⟩:=s1.obj;refine⟨b,o,cap,vs,own,t,hv,g1,s1.lt,?_⟩;rw[←DL s.ok hi,←g2];simp only[bU,bg,List.drop_take,List.take_take,List.drop_drop];congr 1;omega
theorem Kq{h:Heap}{e:Env}{x:Operand}{s:List Nat}(hs:IsS s)(hx:ev h e x=some (sv s)):iS h e (dU 1 (aK 8 (.int .u64 0))) [(0,8,x)]=some (us s):=by
 have e1:cellsOf (sv s)=us s:=by show(us s).toArray.toList=_;simp
 have h0:dU 1 (aK 8 (.int .u64 0))=us s0:=rfl;have e2:cM (us s0) 0 (us s)=us s:=by
  rw[fB (by rw[aD,aD,hs.len];decide),aD,hs.len,List.take_zero];simp[us,s0]
 have e3:bG (us s)=8:=by rw[bO,aD,hs.len]
 rw[h0];simp only[iS,hx,e1,e2,e3];rfl
structure Mv (T:Nat->Option af):Prop where
 rf:OY T
 f31:T 31=some f31
 f49:T 49=some f49
 f93:T 93=some f93
theorem OS(F:Mv T){h:Heap}(hr:Rdy h){w:List Nat×List Nat}(hw:IsW w):Pu T 31 [wV w] h (.int .i64 (if sIn w.1 w.2 then 0 else 1)):=by
 have hp:=F.rf.tr.cr.hr.p;refine .of hp F.f31 hr rfl ?_;have hwc:cellsOf (wV w)=wL w:=by show(wL w).toArray.toList=_;simp
 have g0:(h.push (.cells (cellsOf (wV w)) true 1)).get h.next=some (.cells (wL w) true 1):=by rw[hwc];exact z3 h _
 have W:WF (h.push (.cells (cellsOf (wV w)) true 1)):=hr.wf.push _;have hL:(h.push (.cells (cellsOf (wV w)) true 1)).log=[]:=hr.log;refine Y4 ?_;generalize(h.push (.cells (cellsOf (wV w)) true 1))=H at*;have C:=QU hp F.rf.f52 F.rf.f140 (h:={H with log:=[]}) (.of W) hw.a hw.b;have wa:=Fl hw;have wb:=CB hw;have wka:=aO hw.a.len;have wkb:=aO hw.b.len;cases hin:sIn w.1 w.2 with
 |true=>
  rw[hin]at C;rw[if_pos rfl];refine Y7 ?_;refine FW.pu C ?_;refine Y9 ?_;exact aA hL rfl rfl
 |false=>
  rw[hin]at C;rw[if_neg (by simp)];refine Y7 ?_;refine FW.pu C ?_;refine Y8 ?_;exact aA hL rfl rfl
end Go.A.Pk
end
section
namespace Go.A
open Go.Sort
variable {P:Program}
theorem ME{μ:Mu}{h:Heap}:∀(l:List Obj) {w:World},R P μ h w->R P μ h (Sort.grow w l.toArray)/\St μ h w μ h (Sort.grow w l.toArray)
 |[],w,hR=>by
  have e:Sort.grow w #[]=w:=grow_empty w;rw[e];exact⟨hR, .refl _ _ _⟩
 |o::l,w,hR=>by
  have e:Sort.grow w (o::l).toArray=Sort.grow (w.alloc o) l.toArray:=by
   rw[alloc_eq_grow,grow_grow];congr 1;apply Array.toList_inj.1;simp
  rw[e];obtain⟨r1,s1⟩:=hR.Ek (w':=w.alloc o) rfl;obtain⟨r2,s2⟩:=ME l r1;exact⟨r2,s1.trans s2 (Nat.le_refl _)⟩
end Go.A
end
section
namespace Go.A.Pk
open Go.Sort
variable {P:Program}
def leS(x y:List Nat):Bool:= !decide (cmpL y x<0)
def eC(l:List (List Nat)):List (List Nat):=l.mergeSort leS
theorem jq(l:List (List Nat)):(eC l).length=l.length:=List.length_mergeSort l
theorem ig{l:List (List Nat)}{x:List Nat}:x∈eC l↔x∈l:=List.mem_mergeSort
theorem fm:∀{l:List (List Nat)},(∀s∈l,IsS s)->(ssL l).length=l.length*8
 |[],_=>rfl
 |s::l,h=>by
  have e:ssL (s::l)=us s++ssL l:=rfl;rw[e,List.length_append,aD,(h s List.mem_cons_self).len,fm (λx hx=>h x (List.mem_cons_of_mem _ hx)),List.length_cons];omega
theorem DK{l:List (List Nat)}{v:Value}(h:v∈ssL l):∃m:Nat,v= .int .u64 (m:Nat):=by
 obtain⟨s,_,h⟩:=List.mem_flatMap.1 h;obtain⟨m,_,rfl⟩:=List.mem_map.1 h;exact⟨m,rfl⟩
def Ea(k1 k2:Nat):Value->Bool
 | .func (.func k) a b=>(Nat.beq k k1||Nat.beq k k2)&&(Nat.beq (bG a.toList) 0&&Nat.beq (bG b.toList) 0)
 |_=>false
theorem Dg{k1 k2:Nat}{v:Value}(h:Ea k1 k2 v=true):∃k,(k=k1∨k=k2)/\v= .func (.func k) #[] #[]:=by
 unfold Ea at h;split at h
 ·rename_i k a b;rw[Bool.and_eq_true,Bool.and_eq_true,Bool.or_eq_true,beq_eq,beq_eq,beq_eq,beq_eq,decide_eq_true_eq,decide_eq_true_eq,decide_eq_true_eq,decide_eq_true_eq,bO,bO]at h;obtain⟨h1,h2,h3⟩:=h;have ea:a= #[]:=by cases a;simpa using h2
  have eb:b= #[]:=by cases b;simpa using h3
  subst ea;subst eb;exact⟨k,h1,rfl⟩
 ·cases h
def xu:Nat->List Value->Option (List (List Nat))
 |0,_=>some []
 |n+1,vs=>match mW (cu 8 vs)with
  |some p=>bif Nat.beq (bG p) 8 then(match xu n (bM 8 vs)with
   |some r=>some (p::r)
   |none=>none)else none
  |none=>none
theorem Bm:∀{n:Nat} {vs:List Value} {l:List (List Nat)},xu n vs=some l->l.length=n/\(∀s∈l,IsS s)/\vs=ssL l++bM (n*8) vs
 |0,vs,l,h=>by
  cases h;refine⟨rfl,(λs hs=>by cases hs),?_⟩;rw[bg,Nat.zero_mul,List.drop_zero];rfl
 |n+1,vs,l,h=>by
  unfold xu at h;split at h
  ·rename_i p hp;rw[cond_eq_ite,beq_eq,bO,Option.ite_none_right_eq_some,decide_eq_true_eq]at h;obtain⟨hl,h⟩:=h;split at h
   ·rename_i r hr;cases h;obtain⟨e1,e2,e3⟩:=Bm hr;obtain⟨p1,p2⟩:=qi hp;refine⟨by rw[List.length_cons,e1],λs hs=> ?_,?_⟩
    ·rcases List.mem_cons.1 hs with rfl|hs
     ·exact⟨hl,p2⟩
     ·exact e2 s hs
    ·have e:ssL (p::r)=us p++ssL r:=rfl;rw[bU]at p1;rw[bg,bg]at e3;rw[bg,e,←p1,List.append_assoc];have e4:vs.drop ((n+1)*8)=(vs.drop 8).drop (n*8):=by rw[List.drop_drop];congr 1;omega
     rw[e4,←e3,List.take_append_drop]
   ·cases h
  ·cases h
theorem Bl:∀{l:List (List Nat)} {t:List Value},(∀s∈l,IsS s)->xu l.length (ssL l++t)=some l
 |[],t,_=>rfl
 |s::l,t,h=>by
  have hs:=h s List.mem_cons_self;have e:ssL (s::l)++t=us s++(ssL l++t):=by show us s++ssL l++t=_;rw[List.append_assoc]
  have e8:(us s).length=8:=by rw[aD,hs.len]
  have e1:cu 8 (us s++(ssL l++t))=us s:=by rw[bU,←e8,List.take_left]
  have e2:bM 8 (us s++(ssL l++t))=ssL l++t:=by rw[bg,←e8,List.drop_left]
  have e3:Nat.beq (bG s) 8=true:=by rw[bO,hs.len];rfl
  rw[e,List.length_cons,xu,e1,vg hs.lt];dsimp only;rw[e3,cond_true,e2,Bl λy hy=>h y (List.mem_cons_of_mem _ hy)]
def oh(k1 k2:Nat):List Value->Heap->Option (Value×Heap)
 |[.slice none 0 _,f],h=>bif Ea k1 k2 f then some (.tuple #[],h)else none
 |[.slice (some ⟨b,o,none⟩) n _,f],h=>bif Ea k1 k2 f&&(Nat.beq o 0&&Nat.blt n 1000000)then(match h.get b with
  |some (.cells vs true sz)=>match xu n vs with
   |some l=>some (.tuple #[],h.wr h.next b (.cells (ssL (eC l)++bM (n*8) vs) true sz))
   |none=>none
  |_=>none)else none
 |_,_=>none
theorem Qe{μ:Mu}{k:Nat}{v:Value}(h:VR μ (.func (.func k) #[] #[]) v):v= .func (.func k) #[] #[]:=by
 cases h with
 |func hf h1 h2 h3 h4=>
  rename_i f' a' c';cases hf;have ea:a'= #[]:=by cases a';simpa using h1.symm
  have ec:c'= #[]:=by cases c';simpa using h3.symm
  rw[ea,ec]
theorem EM{f k1 k2:Nat}{fn:Func}(hf:P.funcs[f]? =some fn)(hn:fn.name≠ "runtime.NumGoroutine")(hb:fn.body.isSome=true)
 (h0:∀(k:Nat) (p:Option Addr) (cap:Nat) (w:World),Calls P f #[.slice p 0 cap, .func (.func k) #[] #[]] w λe w'=>e= .returned (.tuple #[])/\w'=w)
 (h1:∀(k:Nat),k=k1∨k=k2→∀(blk off cap:Nat) (l:List (List Nat)) (w:World),(∀s∈l,IsS s)→Holds id w blk off (ssL l).toArray→blk<w.heap.size→l.length<4611686018427387904→
   Calls P f #[.slice (some ⟨blk,off,none⟩) l.length cap, .func (.func k) #[] #[]] w λe w'=>e= .returned (.tuple #[])/\∃n os,w'=Sort.grow (putRow id (Sort.ahead w n) blk off (ssL (eC l)).toArray) os):xL P f (oh k1 k2):=by
 intro args h v h' hp _;unfold oh at hp;split at hp
 ·rename_i c g;rw[cond_eq_ite,Option.ite_none_right_eq_some]at hp;obtain⟨hg,hp⟩:=hp;cases hp;obtain⟨k,hk,rfl⟩:=Dg hg;refine⟨.refl _ _,λμ w args' hR ha=> ?_⟩;obtain⟨x',y',rfl,hx,hy⟩:=ha.two;obtain rfl:=Qe hy;cases hx;exact jw hf hn hb (h0 _ _ _ w) λe w' ⟨q1,q2⟩=>by subst q1;subst q2;exact⟨μ, .tuple rfl (λi hi=>absurd hi (by simp)),hR, .refl _ _ _⟩
 ·rename_i b o n c g;rw[cond_eq_ite,Option.ite_none_right_eq_some,Bool.and_eq_true,Bool.and_eq_true,beq_eq,blt_eq,decide_eq_true_eq,decide_eq_true_eq]at hp;obtain⟨⟨hg,rfl,hlt⟩,hp⟩:=hp;obtain⟨kf,hkf,rfl⟩:=Dg hg;split at hp
  ·rename_i vs sz hbo;split at hp
   ·rename_i l hxs;cases hp;obtain⟨hln,hok,hvs⟩:=Bm hxs;have hsl:(ssL l).length=n*8:=by rw[fm hok,hln]
    have hok2:∀s∈eC l,IsS s:=λs hs=>hok s (ig.1 hs);have hsl2:(ssL (eC l)).length=n*8:=by rw[fm hok2,jq,hln]
    have hdl:(bM (n*8) vs).length=vs.length-n*8:=by rw[bg,List.length_drop]
    have hvl:n*8<=vs.length:=by
     have:=congrArg List.length hvs;rw[List.length_append,hsl]at this;omega
    have hnl:(ssL (eC l)++bM (n*8) vs).length=vs.length:=by rw[List.length_append,hsl2,hdl];omega
    refine⟨AS.wr _ _ _ _,λμ w args' hR ha=> ?_⟩;obtain⟨x',y',rfl,hx,hy⟩:=ha.two;obtain rfl:=Qe hy;have key:∀k c',μ b=some k->nj P (fW P μ h w (.ret (.tuple #[])) (h.wr h.next b (.cells (ssL (eC l)++bM (n*8) vs) true sz))) ((callFunc f #[.slice (some ⟨k.r,k.d+0,none⟩) n c', .func (.func kf) #[] #[]]).run P w):=λk c' hk=>by
     obtain⟨hsz,cc,el,fz,g1,g2,g3,g4,g5⟩:=hR.obj b _ hbo k hk;obtain⟨hd,he,hfz⟩:=g5 rfl;have gvL:∀(l2:List Value) j,(hj:j<l2.length)->gv l2 j=l2[j]:=λl2 j hj=>by simp[gv,cD,hj]
     have hat:∀j,(hj:j<(ssL l).length)->cc[k.d+j]? =some (ssL l)[j]:=λj hj=>by
      obtain⟨v',p1,p2⟩:=g4 j (by omega);have e:gv vs j=(ssL l)[j]:=by
       rw[gvL vs j (by omega)];have:vs[j]? =(ssL l)[j]? :=by
        conv=>lhs;rw[hvs]
        rw[List.getElem?_append_left hj]
       rw[List.getElem?_eq_getElem (by omega),List.getElem?_eq_getElem hj,Option.some.injEq]at this;exact this
      rw[e]at p2;obtain⟨m,hm⟩:=DK (List.getElem_mem hj);rw[hm]at p2⊢;cases p2;exact p1
     have hH:Holds id w k.r (k.d+0) (ssL l).toArray:=λj hj=>by
      have hj:j<(ssL l).length:=by simpa using hj
      refine⟨?_,?_⟩
      ·rw[cell_of g1,Nat.add_zero,hat j hj];simp[hj]
      ·have:=hfz (k.d+0+j) (by omega);simp only[World.frozen?,g1];simpa using this
     have hcall:=h1 kf hkf k.r (k.d+0) c' l w hok hH (hR.dom _ _ hk).2 (by omega);rw[hln]at hcall;refine jw hf hn hb hcall λe w' ⟨q1,m,os,q2⟩=> ?_;subst q1;subst q2;obtain⟨r1,s1⟩:=hR.world (w':=Sort.ahead w m) rfl;have hg:(putRow id (Sort.ahead w m) k.r (k.d+0) (ssL (eC l)).toArray).heap=w.heap.modify k.r (onCells (putCells id (k.d+0) (ssL (eC l)).toArray)):=rfl;have g1':(putRow id (Sort.ahead w m) k.r (k.d+0) (ssL (eC l)).toArray).heap[k.r]? =some (.cells (putCells id (k.d+0) (ssL (eC l)).toArray cc) el fz):=by
      rw[hg,Array.getElem?_modify,if_pos rfl,g1];rfl
     have hps:(putCells id (k.d+0) (ssL (eC l)).toArray cc).size=cc.size:=by simp[putCells]
     obtain⟨r2,s2⟩:=r1.write (base:=h.next) (b:=b) (o:= .cells vs true sz) (o':= .cells (ssL (eC l)++bM (n*8) vs) true sz) (k:=k) (w':=putRow id (Sort.ahead w m) k.r (k.d+0) (ssL (eC l)).toArray) hbo rfl rfl hk
      (by rw[hg];simp[Sort.ahead]) (fun r hr=>by rw[hg,Array.getElem?_modify,if_neg (Ne.symm hr)];rfl) (.u9 g1 g1' (by omega)) (by
        intro k' hk';rw[hk]at hk';cases hk';refine⟨hsz,_,el,fz,g1',by omega,by omega,λi hi=> ?_,λ_=>⟨hd,by omega,λj hj=>hfz j (by omega)⟩⟩;obtain⟨v',p1,p2⟩:=g4 i (by omega);have hgv:gv (ssL (eC l)++bM (n*8) vs) i=(ssL (eC l)++bM (n*8) vs)[i]:=gvL _ i hi;rw[hgv];by_cases hi8:i<n*8
        ·rw[List.getElem_append_left (by omega)];obtain⟨q,hq⟩:=DK (List.getElem_mem (show i<(ssL (eC l)).length by omega));refine⟨(ssL (eC l))[i],?_,by rw[hq];exact .int _ _⟩;simp only[putCells,Array.getElem?_mapIdx,p1,z7];rw[if_pos ⟨by omega,by simp;omega⟩];have:i<(ssL (eC l)).length:=by omega
         simp[this]
        ·refine⟨v',?_,?_⟩
         ·simp only[putCells,Array.getElem?_mapIdx,p1,z7];rw[if_neg (λq=>by simp at q;omega)]
         ·have e:(ssL (eC l)++bM (n*8) vs)[i]? =vs[i]? :=by
           rw[List.getElem?_append_right (by omega),hsl2,bg,List.getElem?_drop];congr 1;omega
          rw[List.getElem?_eq_getElem hi,List.getElem?_eq_getElem (by omega),Option.some.injEq]at e;rw[e,←gvL vs i (by omega)];exact p2)
     obtain⟨r3,s3⟩:=ME os.toList r2;have e3:Sort.grow (putRow id (Sort.ahead w m) k.r (k.d+0) (ssL (eC l)).toArray) os.toList.toArray=Sort.grow (putRow id (Sort.ahead w m) k.r (k.d+0) (ssL (eC l)).toArray) os:=rfl;rw[e3]at r3 s3;exact⟨μ, .tuple rfl (λi hi=>absurd hi (by simp)),r3,(s1.trans s2 (Nat.le_refl _)).trans s3 (Nat.le_refl _)⟩
    cases hx with
    |slice hk q1 q2=>exact key _ _ hk
    |ej hk q1 q2 q3=>exact key _ _ hk
   ·cases hp
  ·cases hp
 ·cases hp
end Go.A.Pk
end
section
namespace Go.A.Pk
variable {T:Nat->Option af}
theorem SsQ.len{h:Heap}{a:Option Addr}{n c:Nat}{l:List (List Nat)}(s:SsQ h (.slice a n c) l):n=l.length:=by
 rcases bY.inv s.sl with⟨_,hv,h0,_⟩|⟨b,o,cap,hv,s1,hc⟩
 ·cases hv;exact h0.symm
 ·cases hv;rfl
def iN(P:List Nat->Bool):List (List Nat)->Nat->Int
 |[],_=> -1
 |r::l,i=>if P r then(i:Int)else iN P l (i+1)
theorem Ef(P:List Nat->Bool){l:List (List Nat)}{i:Nat}{r:List Nat}(hi:l[i]? =some r):iN P (l.drop i) i=if P r then(i:Int)else iN P (l.drop (i+1)) (i+1):=by
 obtain⟨hlt,rfl⟩:=List.getElem?_eq_some_iff.1 hi;rw[List.drop_eq_getElem_cons hlt,iN]
theorem GO(P:List Nat->Bool)(l:List (List Nat)):iN P (l.drop l.length) l.length= -1:=by rw[List.drop_length];rfl
theorem As(P:List Nat->Bool):∀(l:List (List Nat)) (i:Nat),decide (0<=iN P l i)=l.any P
 |[],i=>rfl
 |r::l,i=>by
  rw[iN,List.any_cons];by_cases h:P r=true
  ·rw[if_pos h,h,decide_eq_true (by omega)];rfl
  ·rw[if_neg h,As P l (i+1)];rw[Bool.not_eq_true]at h;rw[h,Bool.false_or]
theorem Av(P:List Nat->Bool):∀(l:List (List Nat)) (i:Nat),0<=iN P l i->∃k r,l[k]? =some r/\P r=true/\iN P l i=((i+k:Nat):Int)/\∀x∈l.take k,P x=false
 |[],i,h=>by simp[iN]at h
 |r::l,i,h=>by
  rw[iN]at h⊢;by_cases hp:P r=true
  ·exact⟨0,r,rfl,hp,by rw[if_pos hp];rfl,λx hx=>by simp at hx⟩
  ·rw[if_neg hp]at h⊢;obtain⟨k,q,h1,h2,h3,h4⟩:=Av P l (i+1) h;refine⟨k+1,q,by simpa using h1,h2,by rw[h3];congr 1;omega,λx hx=> ?_⟩;rw[List.take_succ_cons]at hx;rcases List.mem_cons.1 hx with rfl|hx
   ·simpa using hp
   ·exact h4 x hx
theorem Au(P:List Nat->Bool):∀(l:List (List Nat)) (i:Nat),¬0<=iN P l i->iN P l i= -1/\∀x∈l,P x=false
 |[],i,h=>⟨rfl,λx hx=>by simp at hx⟩
 |r::l,i,h=>by
  rw[iN]at h⊢;by_cases hp:P r=true
  ·rw[if_pos hp]at h;omega
  ·rw[if_neg hp]at h⊢;obtain⟨h1,h2⟩:=Au P l (i+1) h;refine⟨h1,λx hx=> ?_⟩;rcases List.mem_cons.1 hx with rfl|hx
   ·simpa using hp
   ·exact h2 x hx
theorem Aw(hp:aR T)(hf:T 257=some f257){h:Heap}(hr:Rdy h){a:Option Addr}{n c:Nat}{l:List (List Nat)}(s:SsQ h (.slice a n c) l)(hn:n<1000000){g:Nat}{cap:List Value}(P:List Nat->Bool)
 (HP:∀r∈l,Pu T g (sv r::cap) h (.bool (P r))):Pu T 257 [.slice a n c, .func (.func g) #[] cap.toArray] h (.int .i64 (iN P l 0)):=by
 refine .of hp hf hr rfl ?_;obtain rfl:=s.len;refine Y10 ?_
 refine cF (λm e ds h'=>∃i:Nat,i<=l.length/\m=l.length-i/\e=[(0, .slice a l.length c),(1, .func (.func g) #[] cap.toArray),(7, .int .i64 (l.length:Nat)),(8, .int .i64 (i:Nat))]/\ds=[]/\h=h'∧iN P l 0=iN P (l.drop i) i)
  ⟨0,Nat.zero_le _,rfl,rfl,rfl,rfl,rfl⟩ ?_
 rintro m e ds _ ⟨i,hin,rfl,rfl,rfl,rfl,hi⟩;by_cases hlt:i<l.length
 ·obtain⟨r,hri⟩:∃r,l[i]? =some r:=⟨l[i],List.getElem?_eq_getElem hlt⟩;obtain⟨b,o,c2,vs,own,t,hv,g1,hb,k1⟩:=s.elem hri;cases hv;have k2:=aO (s.ok r (List.mem_of_getElem? hri)).len;have H:=HP r (List.mem_of_getElem? hri);rw[Ef P hri]at hi;refine Y19 ?_;refine ng (uc (all:=sv r::cap) (by exact rfl) (by exact rfl) (by exact rfl) (by rw[dx,dx];simp[sv])) ?_;refine FW.pu (by rw[hr.self];exact H) ?_;clear H HP;cases hpr:P r with
  |true=>
   rw[hpr,if_pos rfl]at hi;rw[hi];refine Y12 ?_;exact aA hr.log rfl rfl
  |false=>
   rw[hpr,if_neg (by simp)]at hi;refine Y9 ?_;exact⟨l.length-(i+1),by omega,i+1,by omega,rfl,rfl,rfl,rfl,hi⟩
 ·obtain rfl:i=l.length:=by omega
  rw[GO]at hi;rw[hi];refine Y14 ?_;exact aA hr.log rfl rfl
theorem ta(hp:aR T)(hf:T 196=some f196)(hf2:T 257=some f257){h:Heap}(hr:Rdy h){a:Option Addr}{n c:Nat}{l:List (List Nat)}(s:SsQ h (.slice a n c) l)(hn:n<1000000){g:Nat}{cap:List Value}(P:List Nat->Bool)
 (HP:∀r∈l,Pu T g (sv r::cap) h (.bool (P r))):Pu T 196 [.slice a n c, .func (.func g) #[] cap.toArray] h (.bool (l.any P)):=by
 refine .of hp hf hr rfl ?_;have C:=Aw hp hf2 hr s hn P HP;rw[←As P l 0];generalize iN P l 0=z at C⊢;refine Y7 ?_;refine FW.pu (by rw[hr.self];exact C) ?_;clear C;have m1:aq .geq (.int .i64 z) (.int .i64 0)=some (.bool (decide (0<=z))):=Dm;refine Y4 ?_;exact aA hr.log rfl rfl
def OwS(lo:Nat)(h:Heap)(v:Value)(l:List (List Nat)):Prop:=
 (v= .slice none 0 0/\l=[])∨∃b c t,lo<=b/\b<h.next/\h.get b=some (.cells (ssL l++t) true 8)/\v= .slice (some ⟨b,0,none⟩) l.length c/\l.length<=c/\(l≠[]->c=UNK)
def vB(v:Value)(z:Nat):Prop:=∃m c,v= .slice (some ⟨z,0,none⟩) m c
theorem OwS.vb{lo:Nat}{h:Heap}{v:Value}{l:List (List Nat)}(q:OwS lo h v l){z:Nat}(hz:vB v z):lo<=z/\z<h.next:=by
 obtain⟨m,c,hz⟩:=hz;rcases q with⟨rfl,_⟩|⟨b,c,t,h1,h2,h3,rfl,_⟩
 ·cases hz
 ·cases hz;exact⟨h1,h2⟩
theorem OwS.ss{lo:Nat}{h:Heap}{v:Value}{l:List (List Nat)}(q:OwS lo h v l)(hl:∀s∈l,IsS s):SsQ h v l:=by
 refine⟨?_,hl⟩;rcases q with⟨rfl,rfl⟩|⟨b,c,t,h1,h2,h3,rfl,h4,h5⟩
 ·exact .nil
 ·refine .mem ⟨h2,⟨_,_,_,h3,?_⟩,fm hl⟩ h4;rw[bU,bg,List.drop_zero,List.take_append_of_le_length (by rw[fm hl];omega),List.take_of_length_le (by rw[fm hl];omega)]
theorem OwS.keep{lo:Nat}{h h':Heap}{v:Value}{l:List (List Nat)}(q:OwS lo h v l)(hn:h.next<=h'.next)(ha:∀z,lo<=z->z<h.next->h'.get z=h.get z):OwS lo h' v l:=by
 rcases q with q|⟨b,c,t,h1,h2,h3,rfl,h4,h5⟩
 ·exact .inl q
 ·exact .inr ⟨b,c,t,h1,by omega,(ha b h1 h2).trans h3,rfl,h4,h5⟩
theorem OwS.ext{lo:Nat}{h h':Heap}{v:Value}{l:List (List Nat)}(q:OwS lo h v l)(x:Ext h h'):OwS lo h' v l:=q.keep x.next λz _ hz=>x.old z hz
theorem OwS.log{lo:Nat}{h:Heap}{v:Value}{l:List (List Nat)}(q:OwS lo h v l)(m:List Nat):OwS lo {h with log:=m} v l:=q
theorem OwS.low{lo lo':Nat}{h:Heap}{v:Value}{l:List (List Nat)}(q:OwS lo h v l)(hl:lo'≤lo):OwS lo' h v l:=by
 rcases q with q|⟨b,c,t,h1,h2⟩
 ·exact .inl q
 ·exact .inr ⟨b,c,t,by omega,h2⟩
theorem OwS.flat{lo lo':Nat}{h h':Heap}{v:Value}{l:List (List Nat)}(hv:cg v=true)(q:OwS lo h v l):OwS lo' h' v l:=by
 rcases q with q|⟨b,c,t,h1,h2,h3,rfl,_⟩
 ·exact .inl q
 ·cases hv
theorem OwS.form{lo:Nat}{h:Heap}{v:Value}{l:List (List Nat)}(q:OwS lo h v l):∃a c,v= .slice a l.length c:=by
 rcases q with⟨rfl,rfl⟩|⟨b,c,t,h1,h2,h3,rfl,_⟩
 ·exact⟨none,0,rfl⟩
 ·exact⟨_,c,rfl⟩
theorem Own.owS{lo:Nat}{h:Heap}{v:Value}{l:List (List Nat)}(q:Own lo h 8 v l.length (ssL l))(hn:l.length<4000000):OwS lo h v l:=by
 generalize hm:l.length=n at q;generalize hc:ssL l=cs at q;cases q with
 |nil=>exact .inl ⟨rfl,List.length_eq_zero_iff.1 hm⟩
 |full h1 h2 h3 h4 h5=>
  subst hm;subst hc;exact .inr ⟨_,UNK,[],h1,h2,by rw[List.append_nil];exact h3,rfl,by unfold UNK;omega,λ_=>rfl⟩
theorem tS(a b:List (List Nat)):ssL (a++b)=ssL a++ssL b:=by simp[ssL]
theorem Jh(a:List Nat)(b:List (List Nat)):ssL (a::b)=us a++ssL b:=rfl
theorem Bp{l:List (List Nat)}{i:Nat}(h:∀r∈l,IsS r):(ssL l).take (i*8)=ssL (l.take i):=by
 by_cases hi:i<=l.length
 ·have e:l=l.take i++l.drop i:=(List.take_append_drop i l).symm;have hlen:(ssL (l.take i)).length=i*8:=by rw[fm λr hr=>h r (List.mem_of_mem_take hr),List.length_take,Nat.min_eq_left hi]
  conv=>lhs;rw[e,tS]
  rw[←hlen,List.take_left]
 ·rw[List.take_of_length_le (by rw[fm h];omega),List.take_of_length_le (by omega)]
theorem Ji{l:List (List Nat)}{i:Nat}(h:∀r∈l,IsS r):(ssL l).drop (i*8)=ssL (l.drop i):=by
 by_cases hi:i<=l.length
 ·have e:l=l.take i++l.drop i:=(List.take_append_drop i l).symm;have hlen:(ssL (l.take i)).length=i*8:=by rw[fm λr hr=>h r (List.mem_of_mem_take hr),List.length_take,Nat.min_eq_left hi]
  conv=>lhs;rw[e,tS]
  rw[←hlen,List.drop_left]
 ·rw[List.drop_of_length_le (by rw[fm h];omega),List.drop_of_length_le (by omega)];rfl
theorem zA{l:List (List Nat)}{t:List Value}{i:Nat}{r:List Nat}(h:∀r∈l,IsS r)(hr:IsS r)(hi:i<l.length):cM (ssL l++t) (0+i*8) (us r)=ssL (l.set i r)++t:=by
 have hl:=fm h;have hu:(us r).length=8:=by rw[aD,hr.len]
 rw[Nat.zero_add,fB (by rw[hu,List.length_append,hl];omega),hu,List.take_append_of_le_length (by omega),List.drop_append_of_le_length (by omega),Bp h,show i*8+8=(i+1)*8 by omega,Ji h,List.set_eq_take_append_cons_drop,if_pos hi,tS,Jh];simp
theorem pq{l:List (List Nat)}{t:List Value}{i:Nat}{x:List Nat}(h:∀r∈l,IsS r)(hi:l[i]? =some x):cu 8 (bM (0+i*8) (ssL l++t))=us x:=by
 have hlt:=(List.getElem?_eq_some_iff.1 hi).1;have hl:=fm h;rw[bU,bg,Nat.zero_add,List.drop_append_of_le_length (by omega),List.take_append_of_le_length (by rw[List.length_drop];omega),DL h hi]
theorem zC{l:List (List Nat)}{t:List Value}{i:Nat}{r:List Nat}(h:∀r∈l,IsS r)(hr:IsS r)(hi:i<l.length):(Nat.beq (bG (cellsOf (sv r))) 8&&Nat.ble (0+i*8+8) (bG (ssL l++t))&&dX (cellsOf (sv r)))=true:=by
 have e:cellsOf (sv r)=us r:=by show(us r).toArray.toList=_;simp
 rw[e,bO,bO,aD,hr.len,cI,List.length_append,fm h,gr (by omega)];rfl
theorem Gj(hp:aR T)(hf:T 194=some f194){h:Heap}(hr:Rdy h){v:Value}{l:List (List Nat)}(s:SsQ h v l)(hn:l.length<1000000):Al T 194 [v] h λv h'=>OwS h.next h' v l:=by
 refine .of hp hf hr (λv h1 hv q=>OwS.flat hv q) ?_;rcases bY.inv s.sl with⟨c',rfl,h0,_⟩|⟨b,o,cap,rfl,s1,hc⟩
 ·have hl:l=[]:=List.length_eq_zero_iff.1 h0;subst hl;refine Y6 ?_;refine aF (FG (by exact rfl) (by exact rfl) (by exact rfl)) ?_;refine Y7 ?_;exact dy hr.log rfl (.inl ⟨rfl,rfl⟩)
 ·have hs:=Oo (s.sl.ext ((Ext.refl h).push (.cells [] true 8)));by_cases h0:l.length=0
  ·have hl:l=[]:=List.length_eq_zero_iff.1 h0;subst hl;refine Y6 ?_;refine aF (FG (by exact rfl) (by exact rfl) (by exact rfl)) ?_;refine Y5 ?_;refine aF (kr (by exact rfl) (by exact rfl)) ?_;refine yM ?_;refine aF (ua (by exact rfl) (by exact rfl) hs (Nat.le_refl _)) ?_;refine Y3 ?_;refine dy hr.log rfl (.inr ⟨h.next,_,[],Nat.le_refl _,Nat.lt_succ_self _,?_,rfl,Nat.le_refl _,λq=>absurd rfl q⟩)
   (simp(disch:=first|omega|(simp only[z1,z2];omega))only[z3,z4,z5,z6,z7,z1,z2];exact rfl)
  ·refine Y6 ?_;refine aF (FG (by exact rfl) (by exact rfl) (by exact rfl)) ?_;refine Y5 ?_;refine aF (kr (by exact rfl) (by exact rfl)) ?_;refine yM ?_;refine aF (tZ (c:=0) (len:=0) (by exact rfl) (by exact rfl) hs h0 (by omega) (by decide) (z3 h _) (by exact Nat.le_refl _) (by omega) (by exact rfl)) ?_;refine Y3 ?_;refine dy hr.log rfl (.inr ⟨h.next+1,UNK,[],Nat.le_succ _,Nat.lt_succ_self _,?_,?_,by unfold UNK;omega,λ_=>rfl⟩)
   ·rw[List.append_nil];(simp(disch:=first|omega|(simp only[z1,z2];omega)|(simp only[z1,z2];done)|fail)only[z8,z4,z5,z9,z7,z1,z2];exact rfl)
   ·rw[Nat.zero_add];rfl
theorem vJ{l:List (List Nat)}{i:Nat}{r:List Nat}(hi:l[i]? =some r)(Q:List Nat->Bool):(l.take (i+1)).filter Q=(l.take i).filter Q++(if Q r then [r]else []):=by
 obtain⟨hlt,rfl⟩:=List.getElem?_eq_some_iff.1 hi;rw[List.take_succ_eq_append_getElem hlt,List.filter_append];congr 1;by_cases hq:Q l[i]=true
 ·simp[hq]
 ·simp[hq]
theorem xq{l:List (List Nat)}{i:Nat}{r:List Nat}(hi:i<l.length):(l.set i r).take (i+1)=l.take i++[r]:=by
 apply List.ext_getElem?;intro k;by_cases hk:k<i
 ·rw[List.getElem?_take_of_lt (by omega),List.getElem?_set_ne (by omega),List.getElem?_append_left (by rw[List.length_take];omega),List.getElem?_take_of_lt hk]
 ·by_cases hk2:k=i
  ·subst hk2;rw[List.getElem?_take_of_lt (by omega),List.getElem?_set_self hi,List.getElem?_append_right (by rw[List.length_take];omega),List.length_take,Nat.min_eq_left (by omega),Nat.sub_self];rfl
  ·rw[List.getElem?_eq_none (by rw[List.length_take,List.length_set];omega),List.getElem?_eq_none (by rw[List.length_append,List.length_take,List.length_singleton];omega)]
theorem xm{l:List (List Nat)}{i j:Nat}{r:List Nat}(hi:i<j):(l.set i r).drop j=l.drop j:=by
 apply List.ext_getElem?;intro k;rw[List.getElem?_drop,List.getElem?_drop,List.getElem?_set_ne (by omega)]
def zS:List Value:=aK 8 (.int .u64 0)
theorem zG:∀n,dX (dU n zS)=true
 |0=>rfl
 |n+1=>by
  show dX (dD zS (dU n zS))=true;rw[dx];exact og rfl (zG n)
theorem vI{l D:List (List Nat)}{t ws:List Value}{i:Nat}(hl:∀r∈l,IsS r)(hi:i<=l.length)(hD:l.take i=D)(hw:cM (ssL l++t) (0+i*8) (dU (l.length-i) zS)=ws):∃t',ws=ssL D++t':=by
 have hz:(dU (l.length-i) zS).length=(l.length-i)*8:=by rw[jF];rfl
 have hll:=fm hl;rw[←hw,fB (by rw[hz,List.length_append,hll];omega),Nat.zero_add,List.take_append_of_le_length (by omega),Bp hl,hD,List.append_assoc];exact⟨_,rfl⟩
theorem DZ(hp:aR T)(hf:T 193=some f193)(hf2:T 257=some f257){h:Heap}(hr:Rdy h){lo:Nat}{l:List (List Nat)}{v:Value}(q:OwS lo h v l)(hl:∀r∈l,IsS r)(hn:l.length<1000000){g:Nat}{cap:List Value}(P:List Nat->Bool)
 (HP:∀h':Heap,WF h'→h.next<=h'.next->(∀z,z<lo->h'.get z=h.get z)->∀r,IsS r->Pu T g (sv r::cap) {h' with log:=[]} (.bool (P r))):
 Gs T 193 [v, .func (.func g) #[] cap.toArray] h (vB v) (λv h'=>OwS lo h' v (l.filter λr=> !P r)):=by
 have sR:=q.ss hl;obtain⟨a,c,rfl⟩:=q.form;refine .of hp hf ?_ ?_
 ·intro v h1 h2 hv hn2 hag hq;exact OwS.flat hv hq
 have C:=Aw hp hf2 hr sR hn P (λr hR=>by
  have:=HP h hr.wf (Nat.le_refl _) (λ_ _=>rfl) r (hl r hR)
  rwa [hr.self]at this)
 refine Y7 ?_;refine FW.pu (by rw[hr.self];exact C) ?_;clear C;by_cases hi:0<=iN P l 0
 ·obtain⟨k,rk,h1,h2,h3,h4⟩:=Av P l 0 hi;rw[Nat.zero_add]at h3;rw[h3];have hkl:k<l.length:=(List.getElem?_eq_some_iff.1 h1).1;rcases q with⟨_,rfl⟩|⟨b,c',tl,hb1,hb2,hb3,hv,hcl,hcu⟩
  ·simp at hkl
  ·cases hv;obtain rfl:=hcu (λq=>by rw[q]at hkl;simp at hkl);have m1:aq .eql (.int .i64 (k:Nat)) (.int .i64 (-1))=some (.bool false):=lI (by omega);refine Y17 ?_;refine cF (λmm e ds h'=>∃(j i:Nat) (m:List (List Nat)),j<=l.length/\i<j/\mm=l.length-j/\e=[(0, .slice (some ⟨b,0,none⟩) l.length UNK),(1, .func (.func g) #[] cap.toArray),(5, .int .i64 (i:Nat)),(6, .int .i64 (j:Nat))]/\ds=[]∧
    WF h'∧h.next<=h'.next/\(∀z,z<lo->h'.get z=h.get z)/\(∀z∈h'.log,vB (.slice (some ⟨b,0,none⟩) l.length UNK) z)/\h'.get b=some (.cells (ssL m++tl) true 8)/\m.length=l.length/\(∀r∈m,IsS r)/\m.take i=(l.take j).filter (λr=> !P r)/\m.drop j=l.drop j)
    ⟨k+1,k,l,hkl,Nat.lt_succ_self _,rfl,rfl,rfl,hr.wf,Nat.le_refl _,λ_ _=>rfl,(by rw[hr.log];intro z hz;cases hz),hb3,rfl,hl,?_,rfl⟩ ?_
   ·rw[vJ h1,h2];simp only[Bool.not_true,Bool.false_eq_true,if_false,List.append_nil];exact(List.filter_eq_self.2 (λx hx=>by rw[h4 x hx];rfl)).symm
   rintro mm e ds H ⟨j,i,m,hj,hij,rfl,rfl,rfl,hw,hnx,hold,hlg,gb,hm,hmR,htk,hdr⟩;have hbn:b<H.next:=WF.fK hw gb
   by_cases hlt:j<l.length
   ·obtain⟨r,hr1⟩:∃r,l[j]? =some r:=⟨l[j],List.getElem?_eq_getElem hlt⟩;have hmj:m[j]? =some r:=by
     have e1:(m.drop j)[0]? =(l.drop j)[0]? :=by rw[hdr]
     rw[List.getElem?_drop,List.getElem?_drop]at e1;exact e1.trans hr1
    have hrR:=hmR r (List.mem_of_getElem? hmj);have ra0:=pq (t:=tl) hmR hmj;have rl:=aO hrR.len;have rk8:=bn hrR.len;have rln:=hrR.len;refine Y17 ?_;refine aF (nk) ?_;refine aF (br (by exact rfl) (by exact rfl) YG (by(simp only[aD];assumption)) (by exact rfl) (by exact cI _)) ?_;refine Y3 ?_;refine aF (cA (by exact rfl) YG (by assumption) (by assumption)) ?_;have W2:WF (((H.push (.cells (aK 8 (.int .u64 0)) true 1)).wr h.next H.next (.cells (us r) true 1))):=(hw.push (.cells (aK 8 (.int .u64 0)) true 1)).as (AS.wr h.next _ _ _);have HPr:=HP _ W2 (show h.next<=H.next+1 by omega) (λz hz=>by
     rw[z5 (by omega),z4 (by omega)];exact hold z hz) r hrR
    refine ng (uc (all:=sv r::cap) (by exact rfl) (by exact rfl) (by exact rfl) (by rw[dx,dx];simp[sv])) ?_;refine FW.pu HPr ?_;clear HPr;have hlg2:∀z∈(((H.push (.cells (aK 8 (.int .u64 0)) true 1)).wr h.next H.next (.cells (us r) true 1))).log,vB (.slice (some ⟨b,0,none⟩) l.length UNK) z:=by
     rw[Heap.aB hnx];exact hlg
    have gb2:(((H.push (.cells (aK 8 (.int .u64 0)) true 1)).wr h.next H.next (.cells (us r) true 1))).get b=some (.cells (ssL m++tl) true 8):=by
     rw[z5 (by omega),z4 hbn];exact gb
    have gn2:(((H.push (.cells (aK 8 (.int .u64 0)) true 1)).wr h.next H.next (.cells (us r) true 1))).get H.next=some (.cells (us r) true 1):=by
     rw[z6,z3];rfl
    have hold2:∀z,z<lo->(((H.push (.cells (aK 8 (.int .u64 0)) true 1)).wr h.next H.next (.cells (us r) true 1))).get z=h.get z:=λz hz=>by
     rw[z5 (by omega),z4 (by omega)];exact hold z hz
    have hnx2:(((H.push (.cells (aK 8 (.int .u64 0)) true 1)).wr h.next H.next (.cells (us r) true 1))).next=H.next+1:=rfl
    generalize(((H.push (.cells (aK 8 (.int .u64 0)) true 1)).wr h.next H.next (.cells (us r) true 1)))=H2 at*;cases hp:P r with
    |true=>
     refine Y11 ?_;refine⟨l.length-(j+1),by omega,j+1,i,m,by omega,by omega,rfl,rfl,rfl,W2,by omega,hold2,hlg2,gb2,hm,hmR,?_,?_⟩
     ·rw[vJ hr1,hp,htk];simp
     ·rw[←List.drop_drop,←List.drop_drop,hdr]
    |false=>
     have kc:=zC (t:=tl) hmR hrR (i:=i) (by omega);have kw:cM (ssL m++tl) (0+i*8) (cellsOf (sv r))=ssL (m.set i r)++tl:=by
      have e:cellsOf (sv r)=us r:=by show(us r).toArray.toList=_;simp
      rw[e,zA hmR hrR (by omega)]
     refine Y8 ?_;refine aF (iD (by exact rfl) (by exact rfl) gb2 kc kw) ?_;refine Y5 ?_;refine dn ?_;refine Y8 ?_;refine⟨l.length-(j+1),by omega,j+1,i+1,m.set i r,by omega,by omega,rfl,rfl,rfl,W2.as (AS.wr h.next _ _ _),(by show h.next<=H2.next;omega),?_,vN hlg2 ⟨_,_,rfl⟩,?_,by rw[List.length_set];exact hm,?_,?_,?_⟩
     ·intro z hz;rw[z5 (by omega)];exact hold2 z hz
     ·rw[z6,gb2];rfl
     ·intro x hx;rcases List.mem_or_eq_of_mem_set hx with hx|rfl
      ·exact hmR x hx
      ·exact hrR
     ·rw[xq (by omega),vJ hr1,hp,htk];simp
     ·rw[xm (by omega),←List.drop_drop,←List.drop_drop,hdr]
   ·obtain rfl:j=l.length:=by omega
    rw[List.take_length]at htk;have hz:(dU (l.length-i) zS).length=(l.length-i)*8:=by rw[jF];rfl
    have hle:i<=l.length:=by omega
    have hml:=fm hmR;refine Y16 ?_;refine aF (pV (by exact rfl) (by exact rfl) (by assumption) (by omega)) ?_;refine aF (CP (z:=zS) (by exact rfl) (by omega) gb (by rw[hz,List.length_append,hml];omega) (by exact zG _) rfl) ?_;refine Y4 ?_;refine aF (uf (by exact rfl) (by exact rfl) YG (by omega) (by omega)) ?_;refine Y3 ?_;refine lU (vN hlg ⟨_,_,rfl⟩) rfl ?_;have hi2:(l.filter λr=> !P r).length=i:=by
     rw[←htk,List.length_take];omega
    obtain⟨t',ht'⟩:=vI (t:=tl) (i:=i) (ws:=cM (ssL m++tl) (0+i*8) (dU (l.length-i) zS)) hmR (by omega) htk (by rw[hm]);refine .inr ⟨b,UNK,t',hb1,hbn,?_,?_,by unfold UNK;omega,λ_=>rfl⟩
    ·rw[z6,gb,z7,ht']
    ·rw[hi2];rfl
 ·obtain⟨h1,h2⟩:=Au P l 0 hi;rw[h1];refine Y14 ?_;refine lU (by rw[hr.log];intro z hz;cases hz) rfl ?_;show OwS lo h (.slice a l.length c) _;rw[List.filter_eq_self.2 (λx hx=>by rw[h2 x hx];rfl)];exact q
def ddS:List (List Nat)->List (List Nat)
 |a::b::l=>if a=b then ddS (b::l)else a::ddS (b::l)
 |l=>l
theorem uy:∀(l:List (List Nat)) (y x:List Nat),ddS (l++[y,x])=if y=x then ddS (l++[y])else ddS (l++[y])++[x]
 |[],y,x=>by
  show(if y=x then [x]else y::[x])=if y=x then [y]else [y]++[x]
  by_cases h:y=x
  ·rw[if_pos h,if_pos h,h]
  ·rw[if_neg h,if_neg h];rfl
 |[a],y,x=>by
  have ih:=uy [] y x;simp only[List.nil_append]at ih;show(if a=y then ddS (y::[x])else a::ddS (y::[x]))=_;have e:ddS ([a]++[y])=if a=y then ddS [y]else a::ddS [y]:=rfl
  rw[e,ih];by_cases h:a=y
  ·simp only[if_pos h]
  ·simp only[if_neg h];by_cases h2:y=x
   ·simp only[if_pos h2]
   ·simp only[if_neg h2];rfl
 |a::b::l,y,x=>by
  have ih:=uy (b::l) y x;show(if a=b then ddS (b::l++[y,x])else a::ddS (b::l++[y,x]))=_;have e:ddS (a::b::l++[y])=if a=b then ddS (b::l++[y])else a::ddS (b::l++[y]):=rfl
  rw[e,ih];by_cases h:a=b
  ·simp only[if_pos h]
  ·simp only[if_neg h];by_cases h2:y=x
   ·simp only[if_pos h2]
   ·simp only[if_neg h2];rfl
theorem zX{l:List (List Nat)}{k:Nat}{y x:List Nat}(hy:l[k]? =some y)(hx:l[k+1]? =some x):ddS (l.take (k+1+1))=if y=x then ddS (l.take (k+1))else ddS (l.take (k+1))++[x]:=by
 rw[gN hx,gN hy,List.append_assoc];exact uy _ y x
theorem oR:∀{l:List (List Nat)} {x:List Nat},x∈ddS l->x∈l
 |[],_,h=>h
 |[a],_,h=>h
 |a::b::l,x,h=>by
  unfold ddS at h;by_cases e:a=b
  ·rw[if_pos e]at h;exact List.mem_cons_of_mem _ (oR h)
  ·rw[if_neg e]at h;rcases List.mem_cons.1 h with rfl|h
   ·exact List.mem_cons_self
   ·exact List.mem_cons_of_mem _ (oR h)
theorem qU:∀{l:List (List Nat)} {x:List Nat},x∈l->x∈ddS l
 |[],_,h=>h
 |[a],_,h=>h
 |a::b::l,x,h=>by
  unfold ddS;by_cases e:a=b
  ·rw[if_pos e];rcases List.mem_cons.1 h with rfl|h
   ·exact qU (by rw[e];exact List.mem_cons_self)
   ·exact qU h
  ·rw[if_neg e];rcases List.mem_cons.1 h with rfl|h
   ·exact List.mem_cons_self
   ·exact List.mem_cons_of_mem _ (qU h)
theorem wA{m l:List (List Nat)}{n:Nat}(h:m.drop n=l.drop n):m.drop (n+1)=l.drop (n+1):=by
 have:=congrArg (List.drop 1) h
 rwa [List.drop_drop,List.drop_drop]at this
theorem xS:∀l:List (List Nat),(ddS l).length<=l.length
 |[]=>Nat.le_refl _
 |[a]=>Nat.le_refl _
 |a::b::l=>by
  have ih:=xS (b::l);unfold ddS;by_cases e:a=b
  ·rw[if_pos e];exact Nat.le_succ_of_le ih
  ·rw[if_neg e];exact Nat.succ_le_succ ih
theorem uw(hp:aR T)(hf:T 192=some f192){h:Heap}(hr:Rdy h){lo:Nat}{l:List (List Nat)}{v:Value}(q:OwS lo h v l)(hl:∀r∈l,IsS r)(hn:l.length<1000000):
 Gs T 192 [v] h (vB v) (λv h'=>OwS lo h' v (ddS l)):=by
 obtain⟨a,c,rfl⟩:=q.form;refine .of hp hf ?_ ?_
 ·intro v h1 h2 hv hn2 hag hq;exact OwS.flat hv hq
 by_cases h2:l.length<2
 ·have e:ddS l=l:=by
   match l,h2 with
   |[],_=>rfl
   |[_],_=>rfl
  rw[e];have m1:aq .lss (.int .i64 (l.length:Nat)) (.int .i64 2)=some (.bool true):=fR (by omega);refine Y16 ?_;exact lU (by rw[hr.log];intro z hz;cases hz) rfl q
 have m0:aq .lss (.int .i64 (l.length:Nat)) (.int .i64 2)=some (.bool false):=gj (by omega);rcases q with⟨_,rfl⟩|⟨b,c',tl,hb1,hb2,hb3,hv,hcl,hcu⟩
 ·exact absurd (show([]:List (List Nat)).length<2 by decide) h2
 cases hv;obtain rfl:=hcu (λq=>by rw[q]at h2;simp at h2);refine Y17 ?_
 refine cF (λmm e ds h'=>∃k:Nat,k+1<=l.length/\l.length-(k+1)=mm/\e=[(0, .slice (some ⟨b,0,none⟩) l.length UNK),(3, .int .i64 ((k+1:Nat):Int))]/\ds=[]/\h=h'∧ddS (l.take (k+1))=l.take (k+1))
  ⟨0,by omega,rfl,rfl,rfl,rfl,?_⟩ ?_
 ·cases l with
  |nil=>rfl
  |cons a l=>rfl
 rintro mm e ds _ ⟨k,hk,rfl,rfl,rfl,rfl,hdd⟩;by_cases hlt:k+1<l.length
 ·obtain⟨x,hx⟩:∃r,l[k+1]? =some r:=⟨l[k+1],List.getElem?_eq_getElem hlt⟩;obtain⟨y,hy⟩:∃r,l[k]? =some r:=⟨l[k],List.getElem?_eq_getElem (by omega)⟩;have hxs:=hl x (List.mem_of_getElem? hx);have hys:=hl y (List.mem_of_getElem? hy);have hst:=zX hy hx;have rx:=pq (t:=tl) hl hx;have ry:=pq (t:=tl) hl hy;have kx:=aO hxs.len;have ky:=aO hys.len;have mlt:aq .lss (.int .i64 ((k+1:Nat):Int)) (.int .i64 (l.length:Nat))=some (.bool true):=fR (by omega);have msb:aq .sub (.int .i64 ((k+1:Nat):Int)) (.int .i64 1)=some (.int .i64 ((k:Nat):Int)):=jG (by rw[bK]<;>omega);by_cases hxy:y=x
  ·rw[if_pos hxy,hdd]at hst;refine Y23 ?_;refine aH rfl rfl rfl (by exact rfl) (by exact rfl) (by exact rfl) (jb (b:=y) (by exact rfl) (by exact rfl) hxs.len hys.len) ?_;rw[decide_eq_true hxy.symm];refine Y7 ?_;refine aF (pV (by exact rfl) (by exact rfl) (by assumption) (by omega)) ?_;refine Y7 ?_;refine cF (λmm e ds h'=>∃(k2 i:Nat) (m:List (List Nat)),k2+1<=l.length-(k+1)/\l.length-(k+1)-(k2+1)=mm/\e=[(0, .slice (some ⟨b,0,none⟩) l.length UNK),(3, .int .i64 (i:Nat)),(4, .slice (some ⟨b,0+(k+1)*8,none⟩) (l.length-(k+1)) UNK),(5, .int .i64 ((k2+1:Nat):Int))]/\ds=[]∧
    WF h'∧h.next<=h'.next/\(∀z,z<lo->h'.get z=h.get z)/\(∀z∈h'.log,vB (.slice (some ⟨b,0,none⟩) l.length UNK) z)/\h'.get b=some (.cells (ssL m++tl) true 8)/\m.length=l.length/\(∀r∈m,IsS r)/\i<=k+1+k2/\m.take i=ddS (l.take (k+1+k2+1))/\m.drop (k+1+k2)=l.drop (k+1+k2))
    ⟨0,k+1,l,by omega,rfl,rfl,rfl,hr.wf,Nat.le_refl _,λ_ _=>rfl,(by rw[hr.log];intro z hz;cases hz),hb3,rfl,hl,Nat.le_refl _,hst.symm,rfl⟩ ?_
   rintro mm e ds H ⟨k2,i,m,hk2,rfl,rfl,rfl,hw,hnx,hold,hlg,gb,hm,hmR,hik,htk,hdr⟩;have hbn:b<H.next:=WF.fK hw gb
   clear hx hy hxs hys hst rx ry kx ky mlt msb hxy;by_cases hlt2:k2+1<l.length-(k+1)
   ·obtain⟨x',hx'⟩:∃r,l[k+1+k2+1]? =some r:=⟨l[k+1+k2+1],List.getElem?_eq_getElem (by omega)⟩;obtain⟨y',hy'⟩:∃r,l[k+1+k2]? =some r:=⟨l[k+1+k2],List.getElem?_eq_getElem (by omega)⟩;have mx:m[k+1+k2+1]? =some x':=by
     have e1:(m.drop (k+1+k2))[1]? =(l.drop (k+1+k2))[1]? :=by rw[hdr]
     rw[List.getElem?_drop,List.getElem?_drop]at e1;exact e1.trans hx'
    have my:m[k+1+k2]? =some y':=by
     have e1:(m.drop (k+1+k2))[0]? =(l.drop (k+1+k2))[0]? :=by rw[hdr]
     rw[List.getElem?_drop,List.getElem?_drop]at e1;exact e1.trans hy'
    have hxs:=hmR x' (List.mem_of_getElem? mx);have hys:=hmR y' (List.mem_of_getElem? my);have hst:=zX hy' hx';have rx:=pq (t:=tl) hmR mx;have ry:=pq (t:=tl) hmR my;rw[show 0+(k+1+k2+1)*8=0+(k+1)*8+(k2+1)*8 by omega]at rx;rw[show 0+(k+1+k2)*8=0+(k+1)*8+k2*8 by omega]at ry;have kx:=aO hxs.len;have ky:=aO hys.len;have mlt:aq .lss (.int .i64 ((k2+1:Nat):Int)) (.int .i64 ((l.length-(k+1):Nat):Int))=some (.bool true):=fR (by omega);have msb:aq .sub (.int .i64 ((k2+1:Nat):Int)) (.int .i64 1)=some (.int .i64 ((k2:Nat):Int)):=jG (by rw[bK]<;>omega);by_cases hxy:y'=x'
    ·rw[if_pos hxy]at hst;refine Y23 ?_;refine aH rfl rfl rfl (by exact rfl) (by exact rfl) (by exact rfl) (jb (b:=y') (by exact rfl) (by exact rfl) hxs.len hys.len) ?_;rw[decide_eq_true hxy.symm];refine Y12 ?_;exact⟨l.length-(k+1)-(k2+1+1),by omega,k2+1,i,m,by omega,rfl,rfl,rfl,hw,hnx,hold,hlg,gb,hm,hmR,by omega,by rw[htk,←hst];rfl,wA hdr⟩
    ·rw[if_neg hxy]at hst;have kc:=zC (t:=tl) hmR hxs (i:=i) (by omega);have kw:cM (ssL m++tl) (0+i*8) (cellsOf (sv x'))=ssL (m.set i x')++tl:=by
      have e:cellsOf (sv x')=us x':=by show(us x').toArray.toList=_;simp
      rw[e,zA hmR hxs (by omega)]
     refine Y23 ?_;refine aH rfl rfl rfl (by exact rfl) (by exact rfl) (by exact rfl) (jb (b:=y') (by exact rfl) (by exact rfl) hxs.len hys.len) ?_;rw[decide_eq_false (Ne.symm hxy)];refine Y12 ?_;refine aF (iD (by exact rfl) (by exact rfl) gb kc kw) ?_;refine Y5 ?_;refine dn ?_;refine Y8 ?_;refine⟨l.length-(k+1)-(k2+1+1),by omega,k2+1,i+1,m.set i x',by omega,rfl,rfl,rfl,hw.as (AS.wr h.next _ _ _),hnx,?_,vN hlg ⟨_,_,rfl⟩,?_,by rw[List.length_set];exact hm,?_,by omega,?_,?_⟩
     ·intro z hz;rw[z5 (by omega)];exact hold z hz
     ·rw[z6,gb];rfl
     ·intro r hx;rcases List.mem_or_eq_of_mem_set hx with hx|rfl
      ·exact hmR r hx
      ·exact hxs
     ·rw[xq (by omega),htk,←Nat.add_assoc,hst]
     ·rw[xm (by omega)];exact wA hdr
   ·have hkl:k+1+k2+1=l.length:=by omega
    rw[hkl,List.take_length]at htk;have mlt:aq .lss (.int .i64 ((k2+1:Nat):Int)) (.int .i64 ((l.length-(k+1):Nat):Int))=some (.bool false):=gj (by omega);have hz:(dU (l.length-i) zS).length=(l.length-i)*8:=by rw[jF];rfl
    have hml:=fm hmR;refine Y16 ?_;refine aF (pV (by exact rfl) (by exact rfl) (by assumption) (by omega)) ?_;refine aF (CP (z:=zS) (by exact rfl) (by omega) gb (by rw[hz,List.length_append,hml];omega) (by exact zG _) rfl) ?_;refine Y4 ?_;refine aF (uf (by exact rfl) (by exact rfl) YG (by omega) (by omega)) ?_;refine Y8 ?_;refine lU (vN hlg ⟨_,_,rfl⟩) rfl ?_;have hi2:(ddS l).length=i:=by
     rw[←htk,List.length_take];omega
    obtain⟨t',ht'⟩:=vI (t:=tl) (i:=i) (ws:=cM (ssL m++tl) (0+i*8) (dU (l.length-i) zS)) hmR (by omega) htk (by rw[hm]);refine .inr ⟨b,UNK,t',hb1,hbn,?_,?_,by unfold UNK;omega,λ_=>rfl⟩
    ·rw[z6,gb,z7,ht']
    ·rw[hi2];rfl
  ·rw[if_neg hxy,hdd,←gN hx]at hst;refine Y23 ?_;refine aH rfl rfl rfl (by exact rfl) (by exact rfl) (by exact rfl) (jb (b:=y) (by exact rfl) (by exact rfl) hxs.len hys.len) ?_;rw[decide_eq_false (Ne.symm hxy)];refine Y12 ?_;exact⟨l.length-(k+1+1),by omega,k+1,by omega,rfl,rfl,rfl,rfl,hst⟩
 ·have hkl:k+1=l.length:=by omega
  rw[hkl,List.take_length]at hdd;have mlt:aq .lss (.int .i64 ((k+1:Nat):Int)) (.int .i64 (l.length:Nat))=some (.bool false):=gj (by omega);refine Y18 ?_;refine lU (by rw[hr.log];intro z hz;cases hz) rfl ?_;rw[hdd];exact .inr ⟨b,UNK,tl,hb1,hb2,hb3,rfl,hcl,λ_=>rfl⟩
end Go.A.Pk
end
