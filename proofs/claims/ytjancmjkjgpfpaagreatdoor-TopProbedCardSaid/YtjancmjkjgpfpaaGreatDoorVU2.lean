/- Walks of functions, plain laws, the table. -/
import Derived.Test.YtjancmjkjgpfpaaGreatDoorVU1
import Derived.Test.YtjancmjkjgpfpaaGreatDoorVU0
import Derived.Test.YtjancmjkjgpfpaaGreatDoorVF
import Derived.Test.YtjancmjkjgpfpaaGreatDoorVD
import Derived.Sort.Row
import Derived.Sort.Grow
import Derived.Test.YtjancmjkjgpfpaaGreatDoorVV
set_option linter.all false
set_option maxHeartbeats 16000000
set_option maxRecDepth 100000
section
namespace Go.A.Pk
theorem zQ{a b:List Nat}(ha:IsS a)(hb:IsS b)(c:Ce):ej (xW a b) c=(ej a c&&ej b c):=by
 by_cases hc:inG c=true
 ·obtain⟨z,i,hz,hi,rfl⟩:=iF hc;rw[fK hz hi,fK hz hi,fK hz hi];unfold xW uO;rw[wq ha hb hz];exact Nat.testBit_and ..
 ·rw[fT hc,fT hc,fT hc];rfl
theorem u0{a b:List Nat}(ha:IsS a)(hb:IsS b)(h:∀z i,z<8->i<64->ej a (eN z i)=ej b (eN z i)):a=b:=by
 apply List.ext_getElem?;intro z;rcases Nat.lt_or_ge z 8 with hz|hz
 ·rw[jY (by rw[ha.len];exact hz),jY (by rw[hb.len];exact hz)];congr 1;apply Nat.eq_of_testBit_eq;intro i;rcases Nat.lt_or_ge i 64 with hi|hi
  ·have:=h z i hz hi
   rwa [fK hz hi,fK hz hi]at this
  ·have big:∀x:Nat,x<U64->x.testBit i=false:=λx hx=>Nat.testBit_lt_two_pow (Nat.lt_of_lt_of_le hx (show 2 ^ 64<=2 ^ i from Nat.pow_le_pow_right (by omega) hi));rw[big _ (ha.jZ z),big _ (hb.jZ z)]
 ·rw[List.getElem?_eq_none (by rw[ha.len];exact hz),List.getElem?_eq_none (by rw[hb.len];exact hz)]
theorem JB{z i:Nat}(hz:z<8)(hi:i<64):eN z i∈(List.range 512).map ceN:=by
 rw[←Aq hi];exact List.mem_map_of_mem (List.mem_range.2 (by omega))
def mlo(f:Ce->Int)(m:Int)(l:List Ce):Int:=l.foldl (λm c=>mi m (f c)) m
def mhi(f:Ce->Int)(m:Int)(l:List Ce):Int:=l.foldl (λm c=>mx m (f c)) m
theorem RV(a b:Int):mi a b<=a:=by unfold mi;split<;>omega
theorem RW(a b:Int):mi a b<=b:=by unfold mi;split<;>omega
theorem RZ(a b:Int):a<=mx a b:=by unfold mx;split<;>omega
theorem R4(a b:Int):b<=mx a b:=by unfold mx;split<;>omega
theorem UX{k a b:Int}(h1:k<=a)(h2:k<=b):k<=mi a b:=by unfold mi;split<;>omega
theorem UY{k a b:Int}(h1:a<=k)(h2:b<=k):mx a b<=k:=by unfold mx;split<;>omega
theorem AW(f:Ce->Int):∀(l:List Ce) (m:Int),mlo f m l<=m/\∀c∈l,mlo f m l<=f c
 |[],m=>⟨Int.le_refl _,λc hc=>by cases hc⟩
 |c::l,m=>by
  obtain⟨h1,h2⟩:=AW f l (mi m (f c));refine⟨Int.le_trans h1 (RV _ _),λd hd=> ?_⟩;rcases List.mem_cons.1 hd with rfl|hd
  ·exact Int.le_trans h1 (RW _ _)
  ·exact h2 d hd
theorem AV(f:Ce->Int){k:Int}:∀(l:List Ce) (m:Int),k<=m->(∀c∈l,k<=f c)->k<=mlo f m l
 |[],_,h,_=>h
 |c::l,m,h,hl=>AV f l (mi m (f c)) (UX h (hl c List.mem_cons_self)) λd hd=>hl d (List.mem_cons_of_mem _ hd)
theorem AR(f:Ce->Int):∀(l:List Ce) (m:Int),m<=mhi f m l/\∀c∈l,f c<=mhi f m l
 |[],m=>⟨Int.le_refl _,λc hc=>by cases hc⟩
 |c::l,m=>by
  obtain⟨h1,h2⟩:=AR f l (mx m (f c));refine⟨Int.le_trans (RZ _ _) h1,λd hd=> ?_⟩;rcases List.mem_cons.1 hd with rfl|hd
  ·exact Int.le_trans (R4 _ _) h1
  ·exact h2 d hd
theorem AT(f:Ce->Int){k:Int}:∀(l:List Ce) (m:Int),m<=k->(∀c∈l,f c<=k)->mhi f m l<=k
 |[],_,h,_=>h
 |c::l,m,h,hl=>AT f l (mx m (f c)) (UY h (hl c List.mem_cons_self)) λd hd=>hl d (List.mem_cons_of_mem _ hd)
theorem FQ:∀(l:List Ce) (b:Bx),l.foldl Cr b=⟨⟨mlo (·.x) b.lo.x l,mlo (·.y) b.lo.y l,mlo (·.z) b.lo.z l⟩,⟨mhi (·.x) b.hi.x l,mhi (·.y) b.hi.y l,mhi (·.z) b.hi.z l⟩⟩
 |[],b=>rfl
 |c::l,b=>by rw[List.foldl_cons,FQ l (Cr b c)];rfl
theorem Em(l:List Ce):bxS l=⟨⟨mlo (·.x) 7 l,mlo (·.y) 7 l,mlo (·.z) 7 l⟩,⟨mhi (·.x) 0 l,mhi (·.y) 0 l,mhi (·.z) 0 l⟩⟩:=FQ l bx0
def Sub(a b:List Nat):Prop:=∀c,ej a c=true->ej b c=true
theorem filter_le{α:Type}{p q:α->Bool}(h:∀x,p x=true->q x=true):∀l:List α,(l.filter p).length<=(l.filter q).length
 |[]=>Nat.le_refl _
 |x::l=>by
  have ih:=filter_le h l;rw[List.filter_cons,List.filter_cons];by_cases hp:p x=true
  ·rw[if_pos hp,if_pos (h x hp)];simpa using ih
  ·rw[if_neg hp];split
   ·exact Nat.le_succ_of_le ih
   ·exact ih
theorem Sub.cnt{a b:List Nat}(h:Sub a b):ij a<=ij b:=filter_le h _
theorem dP{a b:List Nat}(ha:IsS a)(hb:IsS b):sIn a b=true↔Sub a b:=by
 unfold sIn;rw[decide_eq_true_eq];constructor
 ·intro h c hc;have e:ej (xW a b) c=ej a c:=by rw[h]
  rw[zQ ha hb,hc,Bool.true_and]at e;exact e
 ·intro h;refine u0 (ha.meet hb) ha λz i hz hi=> ?_;rw[zQ ha hb];cases hc:ej a (eN z i)with
  |false=>rfl
  |true=>rw[h _ hc];rfl
end Go.A.Pk
end
section
namespace Go.A.Pk
variable {T:Nat->Option an}
abbrev CeQ(h:Heap)(v:Value)(l:List Ce):Prop:=aJ h 3 v l.length (ceS l)
theorem CeQ.elem{h:Heap}{v:Value}{l:List Ce}(s:CeQ h v l){i:Nat}{x:Ce}(hi:l[i]? =some x):
 ∃b o c vs own t,v= .slice (some ⟨b,o,none⟩) l.length c/\h.get b=some (.cells vs own t)/\b<h.next/\cw 3 (bU (o+i*3) vs)=ceL x/\bH vs (o+i*3+0)=some (.int .i64 x.x)/\bH vs (o+i*3+1)=some (.int .i64 x.y)/\bH vs (o+i*3+2)=some (.int .i64 x.z):=by
 have hlt:=(List.getElem?_eq_some_iff.1 hi).1;rcases aJ.inv s with⟨_,_,h0,_⟩|⟨b,o,cap,hv,s1,hc⟩
 ·omega
 ·obtain⟨vs,own,t,g1,g2⟩:=s1.obj;have hsp:∀(l:List Ce) (i:Nat),l[i]? =some x->((ceS l).drop (i*3)).take 3=ceL x:=by
   intro l;induction l with
   |nil=>intro i h;simp at h
   |cons c l ih=>
    intro i h;cases i with
    |zero=>simp at h;subst h;rfl
    |succ i=>
     have e:ceS (c::l)=ceL c++ceS l:=rfl;rw[e,show(i+1)*3=3+i*3 by omega,←List.drop_drop];exact ih i (by simpa using h)
  have e:=hsp l i hi;rw[←g2]at e;have e2:cw 3 (bU (o+i*3) vs)=ceL x:=by
   rw[←e];simp only[bI,aT,List.drop_take,List.take_take,List.drop_drop];congr 1;omega
  have e3:∀j v,j<3->(ceL x)[j]? =some v->bH vs (o+i*3+j)=some v:=by
   intro j v hj h;rw[←e2,bI,aT,List.getElem?_take_of_lt hj,List.getElem?_drop]at h;rw[cD];exact h
  exact⟨b,o,cap,vs,own,t,hv,g1,s1.lt,e2,e3 0 _ (by omega) rfl,e3 1 _ (by omega) rfl,e3 2 _ (by omega) rfl⟩
theorem fQ{α:Type}{l:List α}{j:Nat}{x:α}(h:l[j]? =some x):l.take (j+1)=l.take j++[x]:=by
 rw[List.take_add_one,h];rfl
def shC(x y z:Int)(c:Ce):Ce:=⟨c.x+x,c.y+y,c.z+z⟩
theorem G6{s:List Nat}(hs:IsS s)(h:aU s 512=[]):s=s0:=by
 refine u0 hs zP λz i hz hi=> ?_;rw[sP];cases hc:ej s (eN z i)with
 |false=>rfl
 |true=>
  have:eN z i∈aU s 512:=List.mem_filter.2 ⟨List.mem_map.2 ⟨z*64+i,List.mem_range.2 (by omega),Aq hi⟩,hc⟩;rw[h]at this;cases this
end Go.A.Pk
end
section
namespace Go.A.Pk
theorem Ct{z i z' i':Nat}(h:eN z i=eN z' i'):z=z'∧i=i':=by
 unfold eN at h;injection h with h1 h2 h3
 omega
theorem Bf{o:List Nat}(ho:IsS o){d:Ce}(hd:inG d=true)(c:Ce):ej (oh o d) c=(ej o c||decide (c=d)):=by
 by_cases hc:inG c=true
 ·obtain⟨z,i,hz,hi,rfl⟩:=iF hc;obtain⟨m,j,hm,hj,rfl⟩:=iF hd;rw[fK hz hi,fK hz hi,vk o hj];by_cases e:m=z
  ·subst e;have e1:(o.set m (Nat.lor (o.getD m 0) (2 ^ j))).getD m 0=Nat.lor (o.getD m 0) (2 ^ j):=by
    rw[List.getD_eq_getElem?_getD,List.getElem?_set_self (by rw[ho.len];exact hm)];rfl
   rw[e1];show Nat.testBit (o.getD m 0|||2 ^ j) i=_;rw[Nat.testBit_or,Nat.testBit_two_pow];congr 1;by_cases e2:j=i
   ·subst e2;simp
   ·rw[decide_eq_false e2,decide_eq_false (λq=>e2 (Ct q).2.symm)]
  ·have e1:(o.set m (Nat.lor (o.getD m 0) (2 ^ j))).getD z 0=o.getD z 0:=by
    rw[List.getD_eq_getElem?_getD,List.getElem?_set_ne e,←List.getD_eq_getElem?_getD]
   rw[e1,decide_eq_false (λq=>e (Ct q).1.symm),Bool.or_false]
 ·rw[fT hc,fT hc,decide_eq_false (λ(q:c=d)=>hc (by rw[q];exact hd))];rfl
theorem KZ{f:Ce->Ce}(c:Ce):∀{l:List Ce},(∀x∈l,inG (f x)=true)->(ej (wM f l) c=true↔ ∃x∈l,f x=c):=by
 intro l;have:∀(l:List Ce) (o:List Nat),IsS o->(∀x∈l,inG (f x)=true)->(ej (l.foldl (λo c=>oh o (f c)) o) c=true↔ej o c=true∨∃x∈l,f x=c):=by
  intro l;induction l with
  |nil=>intro o _ _;simp
  |cons d l ih=>
   intro o ho hl;rw[List.foldl_cons,ih _ (ho.oh (hl d List.mem_cons_self)) λx hx=>hl x (List.mem_cons_of_mem _ hx),Bf ho (hl d List.mem_cons_self),Bool.or_eq_true,decide_eq_true_eq];constructor
   ·rintro((h|h)|⟨x,hx,h⟩)
    ·exact .inl h
    ·exact .inr ⟨d,List.mem_cons_self,h.symm⟩
    ·exact .inr ⟨x,List.mem_cons_of_mem _ hx,h⟩
   ·rintro(h|⟨x,hx,h⟩)
    ·exact .inl (.inl h)
    ·rcases List.mem_cons.1 hx with rfl|hx
     ·exact .inl (.inr h.symm)
     ·exact .inr ⟨x,hx,h⟩
 intro hl;have e:=this l s0 zP hl;rw[sP]at e;simpa[wM]using e
theorem dX{s:List Nat}{c:Ce}:c∈aU s 512↔ej s c=true:=by
 constructor
 ·intro h;exact(List.mem_filter.1 h).2
 ·intro h;have hc:inG c=true:=by
   cases hq:inG c with
   |true=>rfl
   |false=>rw[fT (by rw[hq];simp)]at h;cases h
  obtain⟨z,i,hz,hi,rfl⟩:=iF hc;exact List.mem_filter.2 ⟨JB hz hi,h⟩
theorem sB{f:Ce->Ce}{s:List Nat}(h:∀x∈aU s 512,inG (f x)=true)(c:Ce):ej (mK f s) c=true↔ ∃x,ej s x=true/\f x=c:=by
 unfold mK;rw[KZ c h];constructor
 ·rintro⟨x,hx,e⟩;exact⟨x,dX.1 hx,e⟩
 ·rintro⟨x,hx,e⟩;exact⟨x,dX.2 hx,e⟩
theorem PB{p:Nat}{k:Int}{i:Nat}(hi:i<64):Nat.testBit (shP p k) i=(decide (0<=(i:Int)-k)&&Nat.testBit p ((i:Int)-k).toNat):=by
 unfold shP;split
 ·rename_i h;show Nat.testBit ((p<<<k.toNat) % 2 ^ 64) i=_;rw[Nat.testBit_mod_two_pow,decide_eq_true hi,Bool.true_and,Nat.testBit_shiftLeft];by_cases hk:k.toNat<=i
  ·rw[decide_eq_true (show i≥k.toNat from hk),decide_eq_true (show 0<=(i:Int)-k by omega),show((i:Int)-k).toNat=i-k.toNat by omega]
  ·rw[decide_eq_false (show¬i≥k.toNat from hk),decide_eq_false (show¬0<=(i:Int)-k by omega)];rfl
 ·rename_i h;show Nat.testBit (p>>>(-k).toNat) i=_;rw[Nat.testBit_shiftRight,decide_eq_true (show 0<=(i:Int)-k by omega),show((i:Int)-k).toNat=(-k).toNat+i by omega];rfl
theorem wF{s:List Nat}(hs:IsS s){a:Nat}{z k:Int}:∀{n:Nat},0<=(a:Int)+z->(a:Int)+z+(n:Nat)<=8->∀m:Nat,m<8→
 (kz s a z k n).getD m 0=if(a:Int)+z<=(m:Int)/\(m:Int)<(a:Int)+z+(n:Nat)then shP (s.getD ((m:Int)-z).toNat 0) k else 0
 |0,_,_,m,hm=>by
  rw[if_neg (by omega)];have:∀z:Fin 8,s0.getD z.val 0=0:=by decide
  exact this ⟨m,hm⟩
 |n+1,h1,h2,m,hm=>by
  have ih:=wF (k:=k) hs (n:=n) h1 (by omega) m hm;unfold kz;by_cases e:(((a+n:Nat):Int)+z).toNat=m
  ·rw[List.getD_eq_getElem?_getD,e,List.getElem?_set_self (by rw[(ng hs a z k n).len];exact hm),if_pos (by omega)];show shP (s.getD (a+n) 0) k=_;rw[show((m:Int)-z).toNat=a+n by omega]
  ·rw[List.getD_eq_getElem?_getD,List.getElem?_set_ne e,←List.getD_eq_getElem?_getD,ih];by_cases q:(a:Int)+z<=(m:Int)/\(m:Int)<(a:Int)+z+(n:Nat)
   ·rw[if_pos q,if_pos (by omega)]
   ·rw[if_neg q,if_neg (by omega)]
theorem NS{x i:Nat}(hx:x<U64)(h:x.testBit i=true):i<64:=by
 rcases Nat.lt_or_ge i 64 with hi|hi
 ·exact hi
 ·rw[Nat.testBit_lt_two_pow (Nat.lt_of_lt_of_le hx (show 2 ^ 64<=2 ^ i from Nat.pow_le_pow_right (by omega) hi))]at h;cases h
theorem rM{s:List Nat}{c:Ce}(h:ej s c=true):((dS s).1.lo.x<=c.x/\c.x<=(dS s).1.hi.x)/\((dS s).1.lo.y<=c.y/\c.y<=(dS s).1.hi.y)/\((dS s).1.lo.z<=c.z/\c.z<=(dS s).1.hi.z):=by
 have hc:=dX.2 h;have h0:¬s=s0:=λq=>by rw[q,sP]at h;cases h
 have e:(dS s).1=bxS (aU s 512):=by unfold dS;rw[if_neg h0]
 rw[e,Em];exact⟨⟨(AW (·.x) _ 7).2 c hc,(AR (·.x) _ 0).2 c hc⟩,⟨(AW (·.y) _ 7).2 c hc,(AR (·.y) _ 0).2 c hc⟩,⟨(AW (·.z) _ 7).2 c hc,(AR (·.z) _ 0).2 c hc⟩⟩
theorem Rn{s:List Nat}(h0:¬s=s0){x y z:Int}(hx:x<=7)(hy:y<=7)(hz:z<=7)(h:∀c,ej s c=true->x<=c.x/\y<=c.y/\z<=c.z):x<=(dS s).1.lo.x/\y<=(dS s).1.lo.y/\z<=(dS s).1.lo.z:=by
 have e:(dS s).1=bxS (aU s 512):=by unfold dS;rw[if_neg h0]
 rw[e,Em];exact⟨AV (·.x) _ 7 hx λc hc=>(h c (dX.1 hc)).1,AV (·.y) _ 7 hy λc hc=>(h c (dX.1 hc)).2.1,AV (·.z) _ 7 hz λc hc=>(h c (dX.1 hc)).2.2⟩
theorem Ro{s:List Nat}(h0:¬s=s0){x y z:Int}(hx:0<=x)(hy:0<=y)(hz:0<=z)(h:∀c,ej s c=true->c.x<=x/\c.y<=y/\c.z<=z):(dS s).1.hi.x<=x/\(dS s).1.hi.y<=y/\(dS s).1.hi.z<=z:=by
 have e:(dS s).1=bxS (aU s 512):=by unfold dS;rw[if_neg h0]
 rw[e,Em];exact⟨AT (·.x) _ 0 hx λc hc=>(h c (dX.1 hc)).1,AT (·.y) _ 0 hy λc hc=>(h c (dX.1 hc)).2.1,AT (·.z) _ 0 hz λc hc=>(h c (dX.1 hc)).2.2⟩
theorem Kc{s:List Nat}{c:Ce}(h:ej s c=true):inG c=true:=by
 cases hq:inG c with
 |true=>rfl
 |false=>rw[fT (by rw[hq];simp)]at h;cases h
theorem zW{s:List Nat}(hs:IsS s)(h0:¬s=s0):∃c,ej s c=true:=by
 cases hl:aU s 512 with
 |nil=>exact absurd (G6 hs hl) h0
 |cons c l=>exact⟨c,dX.1 (by rw[hl];exact List.mem_cons_self)⟩
structure Rng (b:Bx) (x y z:Int):Prop where
 x:0<=b.lo.x+x/\b.hi.x+x<=7
 y:0<=b.lo.y+y/\b.hi.y+y<=7
 z:0<=b.lo.z+z/\b.hi.z+z<=7
theorem Rng.all{s:List Nat}{x y z:Int}(r:Rng (dS s).1 x y z){c:Ce}(h:ej s c=true):inG (shC x y z c)=true:=by
 obtain⟨h1,h2,h3⟩:=rM h;obtain⟨r1,r2,r3⟩:=r;refine nU.2 ⟨?_,?_,?_⟩<;>(unfold shC;dsimp only;omega)
theorem KG{s:List Nat}(hs:IsS s){x y z:Int}(r:Rng (dS s).1 x y z){m i:Nat}(hm:m<8)(hi:i<64):
 ej (kJ s (dS s).1 x y z) (eN m i)=true↔ ∃c,ej s c=true/\shC x y z c=eN m i:=by
 have hall:∀c,ej s c=true->inG (shC x y z c)=true:=λc hc=>r.all hc;have hbx:=λc hc=> @rM s c hc;obtain⟨⟨bl1,bl2,bl3⟩,⟨bh1,bh2,bh3⟩⟩:=nN s;obtain⟨_,_,r3⟩:=r;unfold kJ;generalize(dS s).1=b at*;rw[fK hm hi];by_cases hlh:b.lo.z<=b.hi.z
 ·rw[wF hs (by omega) (by omega) m hm];have hcond:((b.lo.z.toNat:Int)+z<=(m:Int)/\(m:Int)<(b.lo.z.toNat:Int)+z+((b.hi.z-b.lo.z+1).toNat:Nat))↔(b.lo.z+z<=m/\(m:Int)<=b.hi.z+z):=by omega
  by_cases hq:b.lo.z+z<=m/\(m:Int)<=b.hi.z+z
  ·rw[if_pos (hcond.2 hq),PB hi,Bool.and_eq_true,decide_eq_true_eq];constructor
   ·rintro⟨h1,h2⟩;have hi':=NS (hs.jZ _) h2;have hm':((m:Int)-z).toNat<8:=by omega
    have hc:ej s (eN ((m:Int)-z).toNat ((i:Int)-(8*y+x)).toNat)=true:=by rw[fK hm' hi'];exact h2
    refine⟨_,hc,?_⟩;obtain⟨q1,q2,q3⟩:=nU.1 (hall _ hc);unfold shC eN at q1 q2 q3⊢;dsimp only at q1 q2 q3⊢;congr 1<;>omega
   ·rintro⟨c,hc,e⟩;obtain⟨m',i',hm',hi',rfl⟩:=iF (Kc hc);rw[fK hm' hi']at hc;unfold shC eN at e;injection e with e1 e2 e3
    dsimp only at e1 e2 e3;have e4:((m:Int)-z).toNat=m':=by omega
    have e5:((i:Int)-(8*y+x)).toNat=i':=by omega
    rw[e4,e5];exact⟨by omega,hc⟩
  ·rw[if_neg (λq=>hq (hcond.1 q)),Nat.zero_testBit];constructor
   ·intro h;cases h
   ·rintro⟨c,hc,e⟩;obtain⟨_,_,h3⟩:=hbx c hc;unfold shC eN at e;injection e with e1 e2 e3
    exact absurd ⟨by omega,by omega⟩ hq
 ·have hno:∀c,¬ej s c=true:=λc hc=>by have:=(hbx c hc).2.2;omega
  rw[show(b.hi.z-b.lo.z+1).toNat=0 by omega];constructor
  ·intro h;unfold kz at h;have:∀z:Fin 8,s0.getD z.val 0=0:=by decide
   rw[this ⟨m,hm⟩,Nat.zero_testBit]at h;cases h
  ·rintro⟨c,hc,_⟩;exact absurd hc (hno c)
theorem wN{s:List Nat}{x y z:Int}(r:Rng (dS s).1 x y z):IsS (mK (shC x y z) s):=Gk λc hc=>r.all (dX.1 hc)
theorem Gf{s:List Nat}(hs:IsS s){x y z:Int}(r:Rng (dS s).1 x y z):kJ s (dS s).1 x y z=mK (shC x y z) s:=by
 refine u0 (ng hs _ _ _ _) (wN r) λm i hm hi=> ?_;have e1:=KG hs r hm hi;have e2:=sB (f:=shC x y z) (s:=s) (λc hc=>r.all (dX.1 hc)) (eN m i);cases h1:ej (kJ s (dS s).1 x y z) (eN m i)with
 |true=>rw[e2.2 (e1.1 h1)]
 |false=>
  cases h2:ej (mK (shC x y z) s) (eN m i)with
  |false=>rfl
  |true=>rw[e1.2 (e2.1 h2)]at h1;cases h1
theorem BW{lo hi z:Int}:z∈zr lo hi↔lo<=z/\z<=hi:=by
 constructor
 ·intro h;obtain⟨n,hn,rfl⟩:=List.mem_map.1 h;have:=List.mem_range.1 hn;omega
 ·rintro⟨h1,h2⟩;exact BX (n:=(z-lo).toNat) (by omega) h2
end Go.A.Pk
end
section
namespace Go.A.Pk
variable {T:Nat->Option an}
def ssL(l:List (List Nat)):List Value:=l.flatMap us
structure SsQ (h:Heap) (v:Value) (l:List (List Nat)):Prop where
 sl:aJ h 8 v l.length (ssL l)
 ok:∀s∈l,IsS s
theorem SsQ.ext{h h':Heap}{v:Value}{l:List (List Nat)}(s:SsQ h v l)(x:Ext h h'):SsQ h' v l:=⟨s.sl.ext x,s.ok⟩
theorem SsQ.log{h:Heap}{v:Value}{l:List (List Nat)}(s:SsQ h v l)(m:List Nat):SsQ {h with log:=m} v l:=⟨s.sl.log m,s.ok⟩
theorem GD:∀{l:List (List Nat)} {i:Nat} {x:List Nat},(∀s∈l,IsS s)->l[i]? =some x->((ssL l).drop (i*8)).take 8=us x
 |[],i,x,_,h=>by simp at h
 |c::l,0,x,hl,h=>by
  simp at h;subst h;have e:ssL (c::l)=us c++ssL l:=rfl;have e8:(us c).length=8:=by rw[aH,(hl c List.mem_cons_self).len]
  rw[e,Nat.zero_mul,List.drop_zero,List.take_append_of_le_length (by omega),List.take_of_length_le (by omega)]
 |c::l,i+1,x,hl,h=>by
  have e:ssL (c::l)=us c++ssL l:=rfl;have e8:(us c).length=8:=by rw[aH,(hl c List.mem_cons_self).len]
  have e2:(us c++ssL l).drop 8=ssL l:=by rw[←e8];exact List.drop_left
  rw[e,show(i+1)*8=8+i*8 by omega,←List.drop_drop,e2];exact GD (λs hs=>hl s (List.mem_cons_of_mem _ hs)) (by simpa using h)
theorem SsQ.elem{h:Heap}{v:Value}{l:List (List Nat)}(s:SsQ h v l){i:Nat}{x:List Nat}(hi:l[i]? =some x):
 ∃b o c vs own t,v= .slice (some ⟨b,o,none⟩) l.length c/\h.get b=some (.cells vs own t)/\b<h.next/\cw 8 (bU (o+i*8) vs)=us x:=by
 have hlt:=(List.getElem?_eq_some_iff.1 hi).1;rcases aJ.inv s.sl with⟨_,_,h0,_⟩|⟨b,o,cap,hv,s1,hc⟩
 ·omega
 ·obtain⟨vs,own,t,g1,g2⟩:=s1.obj;refine⟨b,o,cap,vs,own,t,hv,g1,s1.lt,?_⟩;rw[←GD s.ok hi,←g2];simp only[bI,aT,List.drop_take,List.take_take,List.drop_drop];congr 1;omega
theorem Of{h:Heap}{e:Env}{x:Operand}{s:List Nat}(hs:IsS s)(hx:ev h e x=some (sv s)):iW h e (eS 1 (aK 8 (.int .u64 0))) [(0,8,x)]=some (us s):=by
 have e1:cellsOf (sv s)=us s:=by show(us s).toArray.toList=_;simp
 have h0:eS 1 (aK 8 (.int .u64 0))=us s0:=rfl;have e2:cU (us s0) 0 (us s)=us s:=by
  rw[eY (by rw[aH,aH,hs.len];decide),aH,hs.len,List.take_zero];simp[us,s0]
 have e3:cm (us s)=8:=by rw[bS,aH,hs.len]
 rw[h0];simp only[iW,hx,e1,e2,e3];rfl
end Go.A.Pk
end
section
namespace Go.A
open Go.Sort
variable {P:Program}
theorem QN{μ:Mu}{h:Heap}:∀(l:List Obj) {w:World},R P μ h w->R P μ h (Sort.grow w l.toArray)/\St μ h w μ h (Sort.grow w l.toArray)
 |[],w,hR=>by
  have e:Sort.grow w #[]=w:=grow_empty w;rw[e];exact⟨hR, .refl _ _ _⟩
 |o::l,w,hR=>by
  have e:Sort.grow w (o::l).toArray=Sort.grow (w.alloc o) l.toArray:=by
   rw[alloc_eq_grow,grow_grow];congr 1;apply Array.toList_inj.1;simp
  rw[e];obtain⟨r1,s1⟩:=hR.Hw (w':=w.alloc o) rfl;obtain⟨r2,s2⟩:=QN l r1;exact⟨r2,s1.trans s2 (Nat.le_refl _)⟩
end Go.A
end
section
namespace Go.A.Pk
open Go.Sort
variable {P:Program}
def leS(x y:List Nat):Bool:= !decide (cmpL y x<0)
def eU(l:List (List Nat)):List (List Nat):=l.mergeSort leS
theorem jV(l:List (List Nat)):(eU l).length=l.length:=List.length_mergeSort l
theorem iM{l:List (List Nat)}{x:List Nat}:x∈eU l↔x∈l:=List.mem_mergeSort
theorem fM:∀{l:List (List Nat)},(∀s∈l,IsS s)->(ssL l).length=l.length*8
 |[],_=>rfl
 |s::l,h=>by
  have e:ssL (s::l)=us s++ssL l:=rfl;rw[e,List.length_append,aH,(h s List.mem_cons_self).len,fM (λx hx=>h x (List.mem_cons_of_mem _ hx)),List.length_cons];omega
theorem GC{l:List (List Nat)}{v:Value}(h:v∈ssL l):∃m:Nat,v= .int .u64 (m:Nat):=by
 obtain⟨s,_,h⟩:=List.mem_flatMap.1 h;obtain⟨m,_,rfl⟩:=List.mem_map.1 h;exact⟨m,rfl⟩
def Hj(k1 k2:Nat):Value->Bool
 | .func (.func k) a b=>(Nat.beq k k1||Nat.beq k k2)&&(Nat.beq (cm a.toList) 0&&Nat.beq (cm b.toList) 0)
 |_=>false
theorem F4{k1 k2:Nat}{v:Value}(h:Hj k1 k2 v=true):∃k,(k=k1∨k=k2)/\v= .func (.func k) #[] #[]:=by
 unfold Hj at h;split at h
 ·rename_i k a b;rw[Bool.and_eq_true,Bool.and_eq_true,Bool.or_eq_true,beq_eq,beq_eq,beq_eq,beq_eq,decide_eq_true_eq,decide_eq_true_eq,decide_eq_true_eq,decide_eq_true_eq,bS,bS]at h;obtain⟨h1,h2,h3⟩:=h;have ea:a= #[]:=by cases a;simpa using h2
  have eb:b= #[]:=by cases b;simpa using h3
  subst ea;subst eb;exact⟨k,h1,rfl⟩
 ·cases h
def zV:Nat->List Value->Option (List (List Nat))
 |0,_=>some []
 |n+1,vs=>match og (cw 8 vs)with
  |some p=>bif Nat.beq (cm p) 8 then(match zV n (bU 8 vs)with
   |some r=>some (p::r)
   |none=>none)else none
  |none=>none
theorem DQ:∀{n:Nat} {vs:List Value} {l:List (List Nat)},zV n vs=some l->l.length=n/\(∀s∈l,IsS s)/\vs=ssL l++bU (n*8) vs
 |0,vs,l,h=>by
  cases h;refine⟨rfl,(λs hs=>by cases hs),?_⟩;rw[aT,Nat.zero_mul,List.drop_zero];rfl
 |n+1,vs,l,h=>by
  unfold zV at h;split at h
  ·rename_i p hp;rw[cond_eq_ite,beq_eq,bS,Option.ite_none_right_eq_some,decide_eq_true_eq]at h;obtain⟨hl,h⟩:=h;split at h
   ·rename_i r hr;cases h;obtain⟨e1,e2,e3⟩:=DQ hr;obtain⟨p1,p2⟩:=ru hp;refine⟨by rw[List.length_cons,e1],λs hs=> ?_,?_⟩
    ·rcases List.mem_cons.1 hs with rfl|hs
     ·exact⟨hl,p2⟩
     ·exact e2 s hs
    ·have e:ssL (p::r)=us p++ssL r:=rfl;rw[bI]at p1;rw[aT,aT]at e3;rw[aT,e,←p1,List.append_assoc];have e4:vs.drop ((n+1)*8)=(vs.drop 8).drop (n*8):=by rw[List.drop_drop];congr 1;omega
     rw[e4,←e3,List.take_append_drop]
   ·cases h
  ·cases h
theorem DP:∀{l:List (List Nat)} {t:List Value},(∀s∈l,IsS s)->zV l.length (ssL l++t)=some l
 |[],t,_=>rfl
 |s::l,t,h=>by
  have hs:=h s List.mem_cons_self;have e:ssL (s::l)++t=us s++(ssL l++t):=by show us s++ssL l++t=_;rw[List.append_assoc]
  have e8:(us s).length=8:=by rw[aH,hs.len]
  have e1:cw 8 (us s++(ssL l++t))=us s:=by rw[bI,←e8,List.take_left]
  have e2:bU 8 (us s++(ssL l++t))=ssL l++t:=by rw[aT,←e8,List.drop_left]
  have e3:Nat.beq (cm s) 8=true:=by rw[bS,hs.len];rfl
  rw[e,List.length_cons,zV,e1,xw hs.lt];dsimp only;rw[e3,cond_true,e2,DP λy hy=>h y (List.mem_cons_of_mem _ hy)]
def pK(k1 k2:Nat):List Value->Heap->Option (Value×Heap)
 |[.slice none 0 _,f],h=>bif Hj k1 k2 f then some (.tuple #[],h)else none
 |[.slice (some ⟨b,o,none⟩) n _,f],h=>bif Hj k1 k2 f&&(Nat.beq o 0&&Nat.blt n 1000000)then(match h.get b with
  |some (.cells vs true sz)=>match zV n vs with
   |some l=>some (.tuple #[],h.wr h.next b (.cells (ssL (eU l)++bU (n*8) vs) true sz))
   |none=>none
  |_=>none)else none
 |_,_=>none
theorem UD{μ:Mu}{k:Nat}{v:Value}(h:VR μ (.func (.func k) #[] #[]) v):v= .func (.func k) #[] #[]:=by
 cases h with
 |func hf h1 h2 h3 h4=>
  rename_i f' a' c';cases hf;have ea:a'= #[]:=by cases a';simpa using h1.symm
  have ec:c'= #[]:=by cases c';simpa using h3.symm
  rw[ea,ec]
theorem Ia{f k1 k2:Nat}{fn:Func}(hf:P.funcs[f]? =some fn)(hn:fn.name≠ "runtime.NumGoroutine")(hb:fn.body.isSome=true)
 (h0:∀(k:Nat) (p:Option Addr) (cap:Nat) (w:World),Calls P f #[.slice p 0 cap, .func (.func k) #[] #[]] w λe w'=>e= .returned (.tuple #[])/\w'=w)
 (h1:∀(k:Nat),k=k1∨k=k2→∀(blk off cap:Nat) (l:List (List Nat)) (w:World),(∀s∈l,IsS s)→Holds id w blk off (ssL l).toArray→blk<w.heap.size→l.length<4611686018427387904→
   Calls P f #[.slice (some ⟨blk,off,none⟩) l.length cap, .func (.func k) #[] #[]] w λe w'=>e= .returned (.tuple #[])/\∃n os,w'=Sort.grow (putRow id (Sort.ahead w n) blk off (ssL (eU l)).toArray) os):Ah P f (pK k1 k2):=by
 intro args h v h' hp _;unfold pK at hp;split at hp
 ·rename_i c g;rw[cond_eq_ite,Option.ite_none_right_eq_some]at hp;obtain⟨hg,hp⟩:=hp;cases hp;obtain⟨k,hk,rfl⟩:=F4 hg;refine⟨.refl _ _,λμ w args' hR ha=> ?_⟩;obtain⟨x',y',rfl,hx,hy⟩:=ha.two;obtain rfl:=UD hy;cases hx;exact j0 hf hn hb (h0 _ _ _ w) λe w' ⟨q1,q2⟩=>by subst q1;subst q2;exact⟨μ, .tuple rfl (λi hi=>absurd hi (by simp)),hR, .refl _ _ _⟩
 ·rename_i b o n c g;rw[cond_eq_ite,Option.ite_none_right_eq_some,Bool.and_eq_true,Bool.and_eq_true,beq_eq,blt_eq,decide_eq_true_eq,decide_eq_true_eq]at hp;obtain⟨⟨hg,rfl,hlt⟩,hp⟩:=hp;obtain⟨kf,hkf,rfl⟩:=F4 hg;split at hp
  ·rename_i vs sz hbo;split at hp
   ·rename_i l hxs;cases hp;obtain⟨hln,hok,hvs⟩:=DQ hxs;have hsl:(ssL l).length=n*8:=by rw[fM hok,hln]
    have hok2:∀s∈eU l,IsS s:=λs hs=>hok s (iM.1 hs);have hsl2:(ssL (eU l)).length=n*8:=by rw[fM hok2,jV,hln]
    have hdl:(bU (n*8) vs).length=vs.length-n*8:=by rw[aT,List.length_drop]
    have hvl:n*8<=vs.length:=by
     have:=congrArg List.length hvs;rw[List.length_append,hsl]at this;omega
    have hnl:(ssL (eU l)++bU (n*8) vs).length=vs.length:=by rw[List.length_append,hsl2,hdl];omega
    refine⟨AS.wr _ _ _ _,λμ w args' hR ha=> ?_⟩;obtain⟨x',y',rfl,hx,hy⟩:=ha.two;obtain rfl:=UD hy;have key:∀k c',μ b=some k->oA P (gL P μ h w (.ret (.tuple #[])) (h.wr h.next b (.cells (ssL (eU l)++bU (n*8) vs) true sz))) ((callFunc f #[.slice (some ⟨k.r,k.d+0,none⟩) n c', .func (.func kf) #[] #[]]).run P w):=λk c' hk=>by
     obtain⟨hsz,cc,el,fz,g1,g2,g3,g4,g5⟩:=hR.obj b _ hbo k hk;obtain⟨hd,he,hfz⟩:=g5 rfl;have gvL:∀(l2:List Value) j,(hj:j<l2.length)->gv l2 j=l2[j]:=λl2 j hj=>by simp[gv,cD,hj]
     have hat:∀j,(hj:j<(ssL l).length)->cc[k.d+j]? =some (ssL l)[j]:=λj hj=>by
      obtain⟨v',p1,p2⟩:=g4 j (by omega);have e:gv vs j=(ssL l)[j]:=by
       rw[gvL vs j (by omega)];have:vs[j]? =(ssL l)[j]? :=by
        conv=>lhs;rw[hvs]
        rw[List.getElem?_append_left hj]
       rw[List.getElem?_eq_getElem (by omega),List.getElem?_eq_getElem hj,Option.some.injEq]at this;exact this
      rw[e]at p2;obtain⟨m,hm⟩:=GC (List.getElem_mem hj);rw[hm]at p2⊢;cases p2;exact p1
     have hH:Holds id w k.r (k.d+0) (ssL l).toArray:=λj hj=>by
      have hj:j<(ssL l).length:=by simpa using hj
      refine⟨?_,?_⟩
      ·rw[cell_of g1,Nat.add_zero,hat j hj];simp[hj]
      ·have:=hfz (k.d+0+j) (by omega);simp only[World.frozen?,g1];simpa using this
     have hcall:=h1 kf hkf k.r (k.d+0) c' l w hok hH (hR.dom _ _ hk).2 (by omega);rw[hln]at hcall;refine j0 hf hn hb hcall λe w' ⟨q1,m,os,q2⟩=> ?_;subst q1;subst q2;obtain⟨r1,s1⟩:=hR.world (w':=Sort.ahead w m) rfl;have hg:(putRow id (Sort.ahead w m) k.r (k.d+0) (ssL (eU l)).toArray).heap=w.heap.modify k.r (onCells (putCells id (k.d+0) (ssL (eU l)).toArray)):=rfl;have g1':(putRow id (Sort.ahead w m) k.r (k.d+0) (ssL (eU l)).toArray).heap[k.r]? =some (.cells (putCells id (k.d+0) (ssL (eU l)).toArray cc) el fz):=by
      rw[hg,Array.getElem?_modify,if_pos rfl,g1];rfl
     have hps:(putCells id (k.d+0) (ssL (eU l)).toArray cc).size=cc.size:=by simp[putCells]
     obtain⟨r2,s2⟩:=r1.write (base:=h.next) (b:=b) (o:= .cells vs true sz) (o':= .cells (ssL (eU l)++bU (n*8) vs) true sz) (k:=k) (w':=putRow id (Sort.ahead w m) k.r (k.d+0) (ssL (eU l)).toArray) hbo rfl rfl hk
      (by rw[hg];simp[Sort.ahead]) (fun r hr=>by rw[hg,Array.getElem?_modify,if_neg (Ne.symm hr)];rfl) (.wZ g1 g1' (by omega)) (by
        intro k' hk';rw[hk]at hk';cases hk';refine⟨hsz,_,el,fz,g1',by omega,by omega,λi hi=> ?_,λ_=>⟨hd,by omega,λj hj=>hfz j (by omega)⟩⟩;obtain⟨v',p1,p2⟩:=g4 i (by omega);have hgv:gv (ssL (eU l)++bU (n*8) vs) i=(ssL (eU l)++bU (n*8) vs)[i]:=gvL _ i hi;rw[hgv];by_cases hi8:i<n*8
        ·rw[List.getElem_append_left (by omega)];obtain⟨q,hq⟩:=GC (List.getElem_mem (show i<(ssL (eU l)).length by omega));refine⟨(ssL (eU l))[i],?_,by rw[hq];exact .int _ _⟩;simp only[putCells,Array.getElem?_mapIdx,p1,z7];rw[if_pos ⟨by omega,by simp;omega⟩];have:i<(ssL (eU l)).length:=by omega
         simp[this]
        ·refine⟨v',?_,?_⟩
         ·simp only[putCells,Array.getElem?_mapIdx,p1,z7];rw[if_neg (λq=>by simp at q;omega)]
         ·have e:(ssL (eU l)++bU (n*8) vs)[i]? =vs[i]? :=by
           rw[List.getElem?_append_right (by omega),hsl2,aT,List.getElem?_drop];congr 1;omega
          rw[List.getElem?_eq_getElem hi,List.getElem?_eq_getElem (by omega),Option.some.injEq]at e;rw[e,←gvL vs i (by omega)];exact p2)
     obtain⟨r3,s3⟩:=QN os.toList r2;have e3:Sort.grow (putRow id (Sort.ahead w m) k.r (k.d+0) (ssL (eU l)).toArray) os.toList.toArray=Sort.grow (putRow id (Sort.ahead w m) k.r (k.d+0) (ssL (eU l)).toArray) os:=rfl;rw[e3]at r3 s3;exact⟨μ, .tuple rfl (λi hi=>absurd hi (by simp)),r3,(s1.trans s2 (Nat.le_refl _)).trans s3 (Nat.le_refl _)⟩
    cases hx with
    |slice hk q1 q2=>exact key _ _ hk
    |fk hk q1 q2 q3=>exact key _ _ hk
   ·cases hp
  ·cases hp
 ·cases hp
end Go.A.Pk
end
section
namespace Go.A.Pk
variable {T:Nat->Option an}
theorem SsQ.len{h:Heap}{a:Option Addr}{n c:Nat}{l:List (List Nat)}(s:SsQ h (.slice a n c) l):n=l.length:=by
 rcases aJ.inv s.sl with⟨_,hv,h0,_⟩|⟨b,o,cap,hv,s1,hc⟩
 ·cases hv;exact h0.symm
 ·cases hv;rfl
def jv(P:List Nat->Bool):List (List Nat)->Nat->Int
 |[],_=> -1
 |r::l,i=>if P r then(i:Int)else jv P l (i+1)
theorem Hr(P:List Nat->Bool){l:List (List Nat)}{i:Nat}{r:List Nat}(hi:l[i]? =some r):jv P (l.drop i) i=if P r then(i:Int)else jv P (l.drop (i+1)) (i+1):=by
 obtain⟨hlt,rfl⟩:=List.getElem?_eq_some_iff.1 hi;rw[List.drop_eq_getElem_cons hlt,jv]
theorem Km(P:List Nat->Bool)(l:List (List Nat)):jv P (l.drop l.length) l.length= -1:=by rw[List.drop_length];rfl
theorem CP(P:List Nat->Bool):∀(l:List (List Nat)) (i:Nat),decide (0<=jv P l i)=l.any P
 |[],i=>rfl
 |r::l,i=>by
  rw[jv,List.any_cons];by_cases h:P r=true
  ·rw[if_pos h,h,decide_eq_true (by omega)];rfl
  ·rw[if_neg h,CP P l (i+1)];rw[Bool.not_eq_true]at h;rw[h,Bool.false_or]
theorem CR(P:List Nat->Bool):∀(l:List (List Nat)) (i:Nat),0<=jv P l i->∃k r,l[k]? =some r/\P r=true/\jv P l i=((i+k:Nat):Int)/\∀x∈l.take k,P x=false
 |[],i,h=>by simp[jv]at h
 |r::l,i,h=>by
  rw[jv]at h⊢;by_cases hp:P r=true
  ·exact⟨0,r,rfl,hp,by rw[if_pos hp];rfl,λx hx=>by simp at hx⟩
  ·rw[if_neg hp]at h⊢;obtain⟨k,q,h1,h2,h3,h4⟩:=CR P l (i+1) h;refine⟨k+1,q,by simpa using h1,h2,by rw[h3];congr 1;omega,λx hx=> ?_⟩;rw[List.take_succ_cons]at hx;rcases List.mem_cons.1 hx with rfl|hx
   ·simpa using hp
   ·exact h4 x hx
theorem CQ(P:List Nat->Bool):∀(l:List (List Nat)) (i:Nat),¬0<=jv P l i->jv P l i= -1/\∀x∈l,P x=false
 |[],i,h=>⟨rfl,λx hx=>by simp at hx⟩
 |r::l,i,h=>by
  rw[jv]at h⊢;by_cases hp:P r=true
  ·rw[if_pos hp]at h;omega
  ·rw[if_neg hp]at h⊢;obtain⟨h1,h2⟩:=CQ P l (i+1) h;refine⟨h1,λx hx=> ?_⟩;rcases List.mem_cons.1 hx with rfl|hx
   ·simpa using hp
   ·exact h2 x hx
theorem CV(hp:aF T)(hf:T 79=some f257){h:Heap}(hr:Rdy h){a:Option Addr}{n c:Nat}{l:List (List Nat)}(s:SsQ h (.slice a n c) l)(hn:n<1000000){g:Nat}{cap:List Value}(P:List Nat->Bool)
 (HP:∀r∈l,Pu T g (sv r::cap) h (.bool (P r))):Pu T 79 [.slice a n c, .func (.func g) #[] cap.toArray] h (.int .i64 (jv P l 0)):=by
 refine .of hp hf hr rfl ?_;obtain rfl:=s.len;refine Y10 ?_
 refine cM (λm e ds h'=>∃i:Nat,i<=l.length/\m=l.length-i/\e=[(0, .slice a l.length c),(1, .func (.func g) #[] cap.toArray),(7, .int .i64 (l.length:Nat)),(8, .int .i64 (i:Nat))]/\ds=[]/\h=h'∧jv P l 0=jv P (l.drop i) i)
  ⟨0,Nat.zero_le _,rfl,rfl,rfl,rfl,rfl⟩ ?_
 rintro m e ds _ ⟨i,hin,rfl,rfl,rfl,rfl,hi⟩;by_cases hlt:i<l.length
 ·obtain⟨r,hri⟩:∃r,l[i]? =some r:=⟨l[i],List.getElem?_eq_getElem hlt⟩;obtain⟨b,o,c2,vs,own,t,hv,g1,hb,k1⟩:=s.elem hri;cases hv;have k2:=bA (s.ok r (List.mem_of_getElem? hri)).len;have H:=HP r (List.mem_of_getElem? hri);rw[Hr P hri]at hi;refine Y19 ?_;refine kZ (vE (all:=sv r::cap) (by exact rfl) (by exact rfl) (by exact rfl) (by rw[dH,dH];simp[sv])) ?_;refine FW.pu (by rw[hr.self];exact H) ?_;clear H HP;cases hpr:P r with
  |true=>
   rw[hpr,if_pos rfl]at hi;rw[hi];refine Y12 ?_;exact aA hr.log rfl rfl
  |false=>
   rw[hpr,if_neg (by simp)]at hi;refine Y9 ?_;exact⟨l.length-(i+1),by omega,i+1,by omega,rfl,rfl,rfl,rfl,hi⟩
 ·obtain rfl:i=l.length:=by omega
  rw[Km]at hi;rw[hi];refine Y14 ?_;exact aA hr.log rfl rfl
theorem ur(hp:aF T)(hf:T 63=some f196)(hf2:T 79=some f257){h:Heap}(hr:Rdy h){a:Option Addr}{n c:Nat}{l:List (List Nat)}(s:SsQ h (.slice a n c) l)(hn:n<1000000){g:Nat}{cap:List Value}(P:List Nat->Bool)
 (HP:∀r∈l,Pu T g (sv r::cap) h (.bool (P r))):Pu T 63 [.slice a n c, .func (.func g) #[] cap.toArray] h (.bool (l.any P)):=by
 refine .of hp hf hr rfl ?_;have C:=CV hp hf2 hr s hn P HP;rw[←CP P l 0];generalize jv P l 0=z at C⊢;refine Y7 ?_;refine FW.pu (by rw[hr.self];exact C) ?_;clear C;have m1:aq .geq (.int .i64 z) (.int .i64 0)=some (.bool (decide (0<=z))):=sq;refine Y4 ?_;exact aA hr.log rfl rfl
def OwS(lo:Nat)(h:Heap)(v:Value)(l:List (List Nat)):Prop:=
 (v= .slice none 0 0/\l=[])∨∃b c t,lo<=b/\b<h.next/\h.get b=some (.cells (ssL l++t) true 8)/\v= .slice (some ⟨b,0,none⟩) l.length c/\l.length<=c/\(l≠[]->c=UNK)
def vB(v:Value)(z:Nat):Prop:=∃m c,v= .slice (some ⟨z,0,none⟩) m c
theorem OwS.vb{lo:Nat}{h:Heap}{v:Value}{l:List (List Nat)}(q:OwS lo h v l){z:Nat}(hz:vB v z):lo<=z/\z<h.next:=by
 obtain⟨m,c,hz⟩:=hz;rcases q with⟨rfl,_⟩|⟨b,c,t,h1,h2,h3,rfl,_⟩
 ·cases hz
 ·cases hz;exact⟨h1,h2⟩
theorem OwS.ss{lo:Nat}{h:Heap}{v:Value}{l:List (List Nat)}(q:OwS lo h v l)(hl:∀s∈l,IsS s):SsQ h v l:=by
 refine⟨?_,hl⟩;rcases q with⟨rfl,rfl⟩|⟨b,c,t,h1,h2,h3,rfl,h4,h5⟩
 ·exact .nil
 ·refine .mem ⟨h2,⟨_,_,_,h3,?_⟩,fM hl⟩ h4;rw[bI,aT,List.drop_zero,List.take_append_of_le_length (by rw[fM hl];omega),List.take_of_length_le (by rw[fM hl];omega)]
theorem OwS.keep{lo:Nat}{h h':Heap}{v:Value}{l:List (List Nat)}(q:OwS lo h v l)(hn:h.next<=h'.next)(ha:∀z,lo<=z->z<h.next->h'.get z=h.get z):OwS lo h' v l:=by
 rcases q with q|⟨b,c,t,h1,h2,h3,rfl,h4,h5⟩
 ·exact .inl q
 ·exact .inr ⟨b,c,t,h1,by omega,(ha b h1 h2).trans h3,rfl,h4,h5⟩
theorem OwS.ext{lo:Nat}{h h':Heap}{v:Value}{l:List (List Nat)}(q:OwS lo h v l)(x:Ext h h'):OwS lo h' v l:=q.keep x.next λz _ hz=>x.old z hz
theorem OwS.log{lo:Nat}{h:Heap}{v:Value}{l:List (List Nat)}(q:OwS lo h v l)(m:List Nat):OwS lo {h with log:=m} v l:=q
theorem OwS.low{lo lo':Nat}{h:Heap}{v:Value}{l:List (List Nat)}(q:OwS lo h v l)(hl:lo'≤lo):OwS lo' h v l:=by
 rcases q with q|⟨b,c,t,h1,h2⟩
 ·exact .inl q
 ·exact .inr ⟨b,c,t,by omega,h2⟩
theorem OwS.flat{lo lo':Nat}{h h':Heap}{v:Value}{l:List (List Nat)}(hv:cG v=true)(q:OwS lo h v l):OwS lo' h' v l:=by
 rcases q with q|⟨b,c,t,h1,h2,h3,rfl,_⟩
 ·exact .inl q
 ·cases hv
theorem OwS.form{lo:Nat}{h:Heap}{v:Value}{l:List (List Nat)}(q:OwS lo h v l):∃a c,v= .slice a l.length c:=by
 rcases q with⟨rfl,rfl⟩|⟨b,c,t,h1,h2,h3,rfl,_⟩
 ·exact⟨none,0,rfl⟩
 ·exact⟨_,c,rfl⟩
theorem Own.owS{lo:Nat}{h:Heap}{v:Value}{l:List (List Nat)}(q:Own lo h 8 v l.length (ssL l))(hn:l.length<4000000):OwS lo h v l:=by
 generalize hm:l.length=n at q;generalize hc:ssL l=cs at q;cases q with
 |nil=>exact .inl ⟨rfl,List.length_eq_zero_iff.1 hm⟩
 |full h1 h2 h3 h4 h5=>
  subst hm;subst hc;exact .inr ⟨_,UNK,[],h1,h2,by rw[List.append_nil];exact h3,rfl,by unfold UNK;omega,λ_=>rfl⟩
theorem vn(a b:List (List Nat)):ssL (a++b)=ssL a++ssL b:=by simp[ssL]
theorem MN(a:List Nat)(b:List (List Nat)):ssL (a::b)=us a++ssL b:=rfl
theorem DU{l:List (List Nat)}{i:Nat}(h:∀r∈l,IsS r):(ssL l).take (i*8)=ssL (l.take i):=by
 by_cases hi:i<=l.length
 ·have e:l=l.take i++l.drop i:=(List.take_append_drop i l).symm;have hlen:(ssL (l.take i)).length=i*8:=by rw[fM λr hr=>h r (List.mem_of_mem_take hr),List.length_take,Nat.min_eq_left hi]
  conv=>lhs;rw[e,vn]
  rw[←hlen,List.take_left]
 ·rw[List.take_of_length_le (by rw[fM h];omega),List.take_of_length_le (by omega)]
theorem MO{l:List (List Nat)}{i:Nat}(h:∀r∈l,IsS r):(ssL l).drop (i*8)=ssL (l.drop i):=by
 by_cases hi:i<=l.length
 ·have e:l=l.take i++l.drop i:=(List.take_append_drop i l).symm;have hlen:(ssL (l.take i)).length=i*8:=by rw[fM λr hr=>h r (List.mem_of_mem_take hr),List.length_take,Nat.min_eq_left hi]
  conv=>lhs;rw[e,vn]
  rw[←hlen,List.drop_left]
 ·rw[List.drop_of_length_le (by rw[fM h];omega),List.drop_of_length_le (by omega)];rfl
theorem BF{l:List (List Nat)}{t:List Value}{i:Nat}{r:List Nat}(h:∀r∈l,IsS r)(hr:IsS r)(hi:i<l.length):cU (ssL l++t) (0+i*8) (us r)=ssL (l.set i r)++t:=by
 have hl:=fM h;have hu:(us r).length=8:=by rw[aH,hr.len]
 rw[Nat.zero_add,eY (by rw[hu,List.length_append,hl];omega),hu,List.take_append_of_le_length (by omega),List.drop_append_of_le_length (by omega),DU h,show i*8+8=(i+1)*8 by omega,MO h,List.set_eq_take_append_cons_drop,if_pos hi,vn,MN];simp
theorem ql{l:List (List Nat)}{t:List Value}{i:Nat}{x:List Nat}(h:∀r∈l,IsS r)(hi:l[i]? =some x):cw 8 (bU (0+i*8) (ssL l++t))=us x:=by
 have hlt:=(List.getElem?_eq_some_iff.1 hi).1;have hl:=fM h;rw[bI,aT,Nat.zero_add,List.drop_append_of_le_length (by omega),List.take_append_of_le_length (by rw[List.length_drop];omega),GD h hi]
theorem BI{l:List (List Nat)}{t:List Value}{i:Nat}{r:List Nat}(h:∀r∈l,IsS r)(hr:IsS r)(hi:i<l.length):(Nat.beq (cm (cellsOf (sv r))) 8&&Nat.ble (0+i*8+8) (cm (ssL l++t))&&dY (cellsOf (sv r)))=true:=by
 have e:cellsOf (sv r)=us r:=by show(us r).toArray.toList=_;simp
 rw[e,bS,bS,aH,hr.len,dB,List.length_append,fM h,fu (by omega)];rfl
theorem JG(hp:aF T)(hf:T 84=some f194){h:Heap}(hr:Rdy h){v:Value}{l:List (List Nat)}(s:SsQ h v l)(hn:l.length<1000000):Al T 84 [v] h λv h'=>OwS h.next h' v l:=by
 refine .of hp hf hr (λv h1 hv q=>OwS.flat hv q) ?_;rcases aJ.inv s.sl with⟨c',rfl,h0,_⟩|⟨b,o,cap,rfl,s1,hc⟩
 ·have hl:l=[]:=List.length_eq_zero_iff.1 h0;subst hl;refine Y6 ?_;refine aD (Cc (by exact rfl) (by exact rfl) (by exact rfl)) ?_;refine Y7 ?_;exact cF hr.log rfl (.inl ⟨rfl,rfl⟩)
 ·have hs:=BE (s.sl.ext ((Ext.refl h).push (.cells [] true 8)));by_cases h0:l.length=0
  ·have hl:l=[]:=List.length_eq_zero_iff.1 h0;subst hl;refine Y6 ?_;refine aD (Cc (by exact rfl) (by exact rfl) (by exact rfl)) ?_;refine Y7 ?_;refine aD (vD (by exact rfl) (by exact rfl) hs (Nat.le_refl _)) ?_;refine Y3 ?_;refine cF hr.log rfl (.inr ⟨h.next,_,[],Nat.le_refl _,Nat.lt_succ_self _,?_,rfl,Nat.le_refl _,λq=>absurd rfl q⟩)
   (simp(disch:=first|omega|(simp only[z1,z2];omega))only[z3,z4,z5,z6,z7,z1,z2];exact rfl)
  ·refine Y6 ?_;refine aD (Cc (by exact rfl) (by exact rfl) (by exact rfl)) ?_;refine Y7 ?_;refine aD (vC (c:=0) (len:=0) (by exact rfl) (by exact rfl) hs h0 (by omega) (by decide) (z3 h _) (by exact Nat.le_refl _) (by omega) (by exact rfl)) ?_;refine Y3 ?_;refine cF hr.log rfl (.inr ⟨h.next+1,UNK,[],Nat.le_succ _,Nat.lt_succ_self _,?_,?_,by unfold UNK;omega,λ_=>rfl⟩)
   ·rw[List.append_nil];(simp(disch:=first|omega|(simp only[z1,z2];omega)|(simp only[z1,z2];done)|fail)only[z8,z4,z5,z9,z7,z1,z2];exact rfl)
   ·rw[Nat.zero_add];rfl
theorem ye{l:List (List Nat)}{i:Nat}{r:List Nat}(hi:l[i]? =some r)(Q:List Nat->Bool):(l.take (i+1)).filter Q=(l.take i).filter Q++(if Q r then [r]else []):=by
 obtain⟨hlt,rfl⟩:=List.getElem?_eq_some_iff.1 hi;rw[List.take_succ_eq_append_getElem hlt,List.filter_append];congr 1;by_cases hq:Q l[i]=true
 ·simp[hq]
 ·simp[hq]
theorem zU{l:List (List Nat)}{i:Nat}{r:List Nat}(hi:i<l.length):(l.set i r).take (i+1)=l.take i++[r]:=by
 apply List.ext_getElem?;intro k;by_cases hk:k<i
 ·rw[List.getElem?_take_of_lt (by omega),List.getElem?_set_ne (by omega),List.getElem?_append_left (by rw[List.length_take];omega),List.getElem?_take_of_lt hk]
 ·by_cases hk2:k=i
  ·subst hk2;rw[List.getElem?_take_of_lt (by omega),List.getElem?_set_self hi,List.getElem?_append_right (by rw[List.length_take];omega),List.length_take,Nat.min_eq_left (by omega),Nat.sub_self];rfl
  ·rw[List.getElem?_eq_none (by rw[List.length_take,List.length_set];omega),List.getElem?_eq_none (by rw[List.length_append,List.length_take,List.length_singleton];omega)]
theorem zT{l:List (List Nat)}{i j:Nat}{r:List Nat}(hi:i<j):(l.set i r).drop j=l.drop j:=by
 apply List.ext_getElem?;intro k;rw[List.getElem?_drop,List.getElem?_drop,List.getElem?_set_ne (by omega)]
def zS:List Value:=aK 8 (.int .u64 0)
theorem BU:∀n,dY (eS n zS)=true
 |0=>rfl
 |n+1=>by
  show dY (eD zS (eS n zS))=true;rw[dH];exact pJ rfl (BU n)
theorem yb{l D:List (List Nat)}{t ws:List Value}{i:Nat}(hl:∀r∈l,IsS r)(hi:i<=l.length)(hD:l.take i=D)(hw:cU (ssL l++t) (0+i*8) (eS (l.length-i) zS)=ws):∃t',ws=ssL D++t':=by
 have hz:(eS (l.length-i) zS).length=(l.length-i)*8:=by rw[kA];rfl
 have hll:=fM hl;rw[←hw,eY (by rw[hz,List.length_append,hll];omega),Nat.zero_add,List.take_append_of_le_length (by omega),DU hl,hD,List.append_assoc];exact⟨_,rfl⟩
theorem G9(hp:aF T)(hf:T 83=some f193)(hf2:T 79=some f257){h:Heap}(hr:Rdy h){lo:Nat}{l:List (List Nat)}{v:Value}(q:OwS lo h v l)(hl:∀r∈l,IsS r)(hn:l.length<1000000){g:Nat}{cap:List Value}(P:List Nat->Bool)
 (HP:∀h':Heap,WF h'→h.next<=h'.next->(∀z,z<lo->h'.get z=h.get z)->∀r,IsS r->Pu T g (sv r::cap) {h' with log:=[]} (.bool (P r))):
 Gs T 83 [v, .func (.func g) #[] cap.toArray] h (vB v) (λv h'=>OwS lo h' v (l.filter λr=> !P r)):=by
 have sR:=q.ss hl;obtain⟨a,c,rfl⟩:=q.form;refine .of hp hf ?_ ?_
 ·intro v h1 h2 hv hn2 hag hq;exact OwS.flat hv hq
 have C:=CV hp hf2 hr sR hn P (λr hR=>by
  have:=HP h hr.wf (Nat.le_refl _) (λ_ _=>rfl) r (hl r hR)
  rwa [hr.self]at this)
 refine Y7 ?_;refine FW.pu (by rw[hr.self];exact C) ?_;clear C;by_cases hi:0<=jv P l 0
 ·obtain⟨k,rk,h1,h2,h3,h4⟩:=CR P l 0 hi;rw[Nat.zero_add]at h3;rw[h3];have hkl:k<l.length:=(List.getElem?_eq_some_iff.1 h1).1;rcases q with⟨_,rfl⟩|⟨b,c',tl,hb1,hb2,hb3,hv,hcl,hcu⟩
  ·simp at hkl
  ·cases hv;obtain rfl:=hcu (λq=>by rw[q]at hkl;simp at hkl);have m1:aq .eql (.int .i64 (k:Nat)) (.int .i64 (-1))=some (.bool false):=pq (by omega);refine Y17 ?_;refine cM (λmm e ds h'=>∃(j i:Nat) (m:List (List Nat)),j<=l.length/\i<j/\mm=l.length-j/\e=[(0, .slice (some ⟨b,0,none⟩) l.length UNK),(1, .func (.func g) #[] cap.toArray),(5, .int .i64 (i:Nat)),(6, .int .i64 (j:Nat))]/\ds=[]∧
    WF h'∧h.next<=h'.next/\(∀z,z<lo->h'.get z=h.get z)/\(∀z∈h'.log,vB (.slice (some ⟨b,0,none⟩) l.length UNK) z)/\h'.get b=some (.cells (ssL m++tl) true 8)/\m.length=l.length/\(∀r∈m,IsS r)/\m.take i=(l.take j).filter (λr=> !P r)/\m.drop j=l.drop j)
    ⟨k+1,k,l,hkl,Nat.lt_succ_self _,rfl,rfl,rfl,hr.wf,Nat.le_refl _,λ_ _=>rfl,(by rw[hr.log];intro z hz;cases hz),hb3,rfl,hl,?_,rfl⟩ ?_
   ·rw[ye h1,h2];simp only[Bool.not_true,Bool.false_eq_true,if_false,List.append_nil];exact(List.filter_eq_self.2 (λx hx=>by rw[h4 x hx];rfl)).symm
   rintro mm e ds H ⟨j,i,m,hj,hij,rfl,rfl,rfl,hw,hnx,hold,hlg,gb,hm,hmR,htk,hdr⟩;have hbn:b<H.next:=WF.bK hw gb
   by_cases hlt:j<l.length
   ·obtain⟨r,hr1⟩:∃r,l[j]? =some r:=⟨l[j],List.getElem?_eq_getElem hlt⟩;have hmj:m[j]? =some r:=by
     have e1:(m.drop j)[0]? =(l.drop j)[0]? :=by rw[hdr]
     rw[List.getElem?_drop,List.getElem?_drop]at e1;exact e1.trans hr1
    have hrR:=hmR r (List.mem_of_getElem? hmj);have ra0:=ql (t:=tl) hmR hmj;have rl:=bA hrR.len;have rk8:=bV hrR.len;have rln:=hrR.len;refine Y17 ?_;refine aD (uj) ?_;refine aD (bZ (by exact rfl) (by exact rfl) YG (by(simp only[aH];assumption)) (by exact rfl) (by exact dB _)) ?_;refine Y3 ?_;refine aD (dh (by exact rfl) YG (by assumption) (by assumption)) ?_;have W2:WF (((H.push (.cells (aK 8 (.int .u64 0)) true 1)).wr h.next H.next (.cells (us r) true 1))):=(hw.push (.cells (aK 8 (.int .u64 0)) true 1)).as (AS.wr h.next _ _ _);have HPr:=HP _ W2 (show h.next<=H.next+1 by omega) (λz hz=>by
     rw[z5 (by omega),z4 (by omega)];exact hold z hz) r hrR
    refine kZ (vE (all:=sv r::cap) (by exact rfl) (by exact rfl) (by exact rfl) (by rw[dH,dH];simp[sv])) ?_;refine FW.pu HPr ?_;clear HPr;have hlg2:∀z∈(((H.push (.cells (aK 8 (.int .u64 0)) true 1)).wr h.next H.next (.cells (us r) true 1))).log,vB (.slice (some ⟨b,0,none⟩) l.length UNK) z:=by
     rw[Heap.aB hnx];exact hlg
    have gb2:(((H.push (.cells (aK 8 (.int .u64 0)) true 1)).wr h.next H.next (.cells (us r) true 1))).get b=some (.cells (ssL m++tl) true 8):=by
     rw[z5 (by omega),z4 hbn];exact gb
    have gn2:(((H.push (.cells (aK 8 (.int .u64 0)) true 1)).wr h.next H.next (.cells (us r) true 1))).get H.next=some (.cells (us r) true 1):=by
     rw[z6,z3];rfl
    have hold2:∀z,z<lo->(((H.push (.cells (aK 8 (.int .u64 0)) true 1)).wr h.next H.next (.cells (us r) true 1))).get z=h.get z:=λz hz=>by
     rw[z5 (by omega),z4 (by omega)];exact hold z hz
    have hnx2:(((H.push (.cells (aK 8 (.int .u64 0)) true 1)).wr h.next H.next (.cells (us r) true 1))).next=H.next+1:=rfl
    generalize(((H.push (.cells (aK 8 (.int .u64 0)) true 1)).wr h.next H.next (.cells (us r) true 1)))=H2 at*;cases hp:P r with
    |true=>
     refine Y11 ?_;refine⟨l.length-(j+1),by omega,j+1,i,m,by omega,by omega,rfl,rfl,rfl,W2,by omega,hold2,hlg2,gb2,hm,hmR,?_,?_⟩
     ·rw[ye hr1,hp,htk];simp
     ·rw[←List.drop_drop,←List.drop_drop,hdr]
    |false=>
     have kc:=BI (t:=tl) hmR hrR (i:=i) (by omega);have kw:cU (ssL m++tl) (0+i*8) (cellsOf (sv r))=ssL (m.set i r)++tl:=by
      have e:cellsOf (sv r)=us r:=by show(us r).toArray.toList=_;simp
      rw[e,BF hmR hrR (by omega)]
     refine Y8 ?_;refine aD (jy (by exact rfl) (by exact rfl) gb2 kc kw) ?_;refine Y5 ?_;refine bL ?_;refine Y8 ?_;refine⟨l.length-(j+1),by omega,j+1,i+1,m.set i r,by omega,by omega,rfl,rfl,rfl,W2.as (AS.wr h.next _ _ _),(by show h.next<=H2.next;omega),?_,yq hlg2 ⟨_,_,rfl⟩,?_,by rw[List.length_set];exact hm,?_,?_,?_⟩
     ·intro z hz;rw[z5 (by omega)];exact hold2 z hz
     ·rw[z6,gb2];rfl
     ·intro x hx;rcases List.mem_or_eq_of_mem_set hx with hx|rfl
      ·exact hmR x hx
      ·exact hrR
     ·rw[zU (by omega),ye hr1,hp,htk];simp
     ·rw[zT (by omega),←List.drop_drop,←List.drop_drop,hdr]
   ·obtain rfl:j=l.length:=by omega
    rw[List.take_length]at htk;have hz:(eS (l.length-i) zS).length=(l.length-i)*8:=by rw[kA];rfl
    have hle:i<=l.length:=by omega
    have hml:=fM hmR;refine Y16 ?_;refine aD (qG (by exact rfl) (by exact rfl) (by assumption) (by omega)) ?_;refine aD (FH (z:=zS) (by exact rfl) (by omega) gb (by rw[hz,List.length_append,hml];omega) (by exact BU _) rfl) ?_;refine Y4 ?_;refine aD (vJ (by exact rfl) (by exact rfl) YG (by omega) (by omega)) ?_;refine Y3 ?_;refine gX (yq hlg ⟨_,_,rfl⟩) rfl ?_;have hi2:(l.filter λr=> !P r).length=i:=by
     rw[←htk,List.length_take];omega
    obtain⟨t',ht'⟩:=yb (t:=tl) (i:=i) (ws:=cU (ssL m++tl) (0+i*8) (eS (l.length-i) zS)) hmR (by omega) htk (by rw[hm]);refine .inr ⟨b,UNK,t',hb1,hbn,?_,?_,by unfold UNK;omega,λ_=>rfl⟩
    ·rw[z6,gb,z7,ht']
    ·rw[hi2];rfl
 ·obtain⟨h1,h2⟩:=CQ P l 0 hi;rw[h1];refine Y14 ?_;refine gX (by rw[hr.log];intro z hz;cases hz) rfl ?_;show OwS lo h (.slice a l.length c) _;rw[List.filter_eq_self.2 (λx hx=>by rw[h2 x hx];rfl)];exact q
def ddS:List (List Nat)->List (List Nat)
 |a::b::l=>if a=b then ddS (b::l)else a::ddS (b::l)
 |l=>l
theorem vV:∀(l:List (List Nat)) (y x:List Nat),ddS (l++[y,x])=if y=x then ddS (l++[y])else ddS (l++[y])++[x]
 |[],y,x=>by
  show(if y=x then [x]else y::[x])=if y=x then [y]else [y]++[x]
  by_cases h:y=x
  ·rw[if_pos h,if_pos h,h]
  ·rw[if_neg h,if_neg h];rfl
 |[a],y,x=>by
  have ih:=vV [] y x;simp only[List.nil_append]at ih;show(if a=y then ddS (y::[x])else a::ddS (y::[x]))=_;have e:ddS ([a]++[y])=if a=y then ddS [y]else a::ddS [y]:=rfl
  rw[e,ih];by_cases h:a=y
  ·simp only[if_pos h]
  ·simp only[if_neg h];by_cases h2:y=x
   ·simp only[if_pos h2]
   ·simp only[if_neg h2];rfl
 |a::b::l,y,x=>by
  have ih:=vV (b::l) y x;show(if a=b then ddS (b::l++[y,x])else a::ddS (b::l++[y,x]))=_;have e:ddS (a::b::l++[y])=if a=b then ddS (b::l++[y])else a::ddS (b::l++[y]):=rfl
  rw[e,ih];by_cases h:a=b
  ·simp only[if_pos h]
  ·simp only[if_neg h];by_cases h2:y=x
   ·simp only[if_pos h2]
   ·simp only[if_neg h2];rfl
theorem Cx{l:List (List Nat)}{k:Nat}{y x:List Nat}(hy:l[k]? =some y)(hx:l[k+1]? =some x):ddS (l.take (k+1+1))=if y=x then ddS (l.take (k+1))else ddS (l.take (k+1))++[x]:=by
 rw[fQ hx,fQ hy,List.append_assoc];exact vV _ y x
theorem qe:∀{l:List (List Nat)} {x:List Nat},x∈ddS l->x∈l
 |[],_,h=>h
 |[a],_,h=>h
 |a::b::l,x,h=>by
  unfold ddS at h;by_cases e:a=b
  ·rw[if_pos e]at h;exact List.mem_cons_of_mem _ (qe h)
  ·rw[if_neg e]at h;rcases List.mem_cons.1 h with rfl|h
   ·exact List.mem_cons_self
   ·exact List.mem_cons_of_mem _ (qe h)
theorem rU:∀{l:List (List Nat)} {x:List Nat},x∈l->x∈ddS l
 |[],_,h=>h
 |[a],_,h=>h
 |a::b::l,x,h=>by
  unfold ddS;by_cases e:a=b
  ·rw[if_pos e];rcases List.mem_cons.1 h with rfl|h
   ·exact rU (by rw[e];exact List.mem_cons_self)
   ·exact rU h
  ·rw[if_neg e];rcases List.mem_cons.1 h with rfl|h
   ·exact List.mem_cons_self
   ·exact List.mem_cons_of_mem _ (rU h)
theorem zj{m l:List (List Nat)}{n:Nat}(h:m.drop n=l.drop n):m.drop (n+1)=l.drop (n+1):=by
 have:=congrArg (List.drop 1) h
 rwa [List.drop_drop,List.drop_drop]at this
theorem Av:∀l:List (List Nat),(ddS l).length<=l.length
 |[]=>Nat.le_refl _
 |[a]=>Nat.le_refl _
 |a::b::l=>by
  have ih:=Av (b::l);unfold ddS;by_cases e:a=b
  ·rw[if_pos e];exact Nat.le_succ_of_le ih
  ·rw[if_neg e];exact Nat.succ_le_succ ih
theorem vS(hp:aF T)(hf:T 58=some f192){h:Heap}(hr:Rdy h){lo:Nat}{l:List (List Nat)}{v:Value}(q:OwS lo h v l)(hl:∀r∈l,IsS r)(hn:l.length<1000000):
 Gs T 58 [v] h (vB v) (λv h'=>OwS lo h' v (ddS l)):=by
 obtain⟨a,c,rfl⟩:=q.form;refine .of hp hf ?_ ?_
 ·intro v h1 h2 hv hn2 hag hq;exact OwS.flat hv hq
 by_cases h2:l.length<2
 ·have e:ddS l=l:=by
   match l,h2 with
   |[],_=>rfl
   |[_],_=>rfl
  rw[e];have m1:aq .lss (.int .i64 (l.length:Nat)) (.int .i64 2)=some (.bool true):=ei (by omega);refine Y16 ?_;exact gX (by rw[hr.log];intro z hz;cases hz) rfl q
 have m0:aq .lss (.int .i64 (l.length:Nat)) (.int .i64 2)=some (.bool false):=eH (by omega);rcases q with⟨_,rfl⟩|⟨b,c',tl,hb1,hb2,hb3,hv,hcl,hcu⟩
 ·exact absurd (show([]:List (List Nat)).length<2 by decide) h2
 cases hv;obtain rfl:=hcu (λq=>by rw[q]at h2;simp at h2);refine Y17 ?_
 refine cM (λmm e ds h'=>∃k:Nat,k+1<=l.length/\l.length-(k+1)=mm/\e=[(0, .slice (some ⟨b,0,none⟩) l.length UNK),(3, .int .i64 ((k+1:Nat):Int))]/\ds=[]/\h=h'∧ddS (l.take (k+1))=l.take (k+1))
  ⟨0,by omega,rfl,rfl,rfl,rfl,?_⟩ ?_
 ·cases l with
  |nil=>rfl
  |cons a l=>rfl
 rintro mm e ds _ ⟨k,hk,rfl,rfl,rfl,rfl,hdd⟩;by_cases hlt:k+1<l.length
 ·obtain⟨x,hx⟩:∃r,l[k+1]? =some r:=⟨l[k+1],List.getElem?_eq_getElem hlt⟩;obtain⟨y,hy⟩:∃r,l[k]? =some r:=⟨l[k],List.getElem?_eq_getElem (by omega)⟩;have hxs:=hl x (List.mem_of_getElem? hx);have hys:=hl y (List.mem_of_getElem? hy);have hst:=Cx hy hx;have rx:=ql (t:=tl) hl hx;have ry:=ql (t:=tl) hl hy;have kx:=bA hxs.len;have ky:=bA hys.len;have mlt:aq .lss (.int .i64 ((k+1:Nat):Int)) (.int .i64 (l.length:Nat))=some (.bool true):=ei (by omega);have msb:aq .sub (.int .i64 ((k+1:Nat):Int)) (.int .i64 1)=some (.int .i64 ((k:Nat):Int)):=mA (by rw[ct]<;>omega);by_cases hxy:y=x
  ·rw[if_pos hxy,hdd]at hst;refine Y23 ?_;refine bW rfl rfl rfl (by exact rfl) (by exact rfl) (by exact rfl) (oD (b:=y) (by exact rfl) (by exact rfl) hxs.len hys.len) ?_;rw[decide_eq_true hxy.symm];refine Y7 ?_;refine aD (qG (by exact rfl) (by exact rfl) (by assumption) (by omega)) ?_;refine Y7 ?_;refine cM (λmm e ds h'=>∃(k2 i:Nat) (m:List (List Nat)),k2+1<=l.length-(k+1)/\l.length-(k+1)-(k2+1)=mm/\e=[(0, .slice (some ⟨b,0,none⟩) l.length UNK),(3, .int .i64 (i:Nat)),(4, .slice (some ⟨b,0+(k+1)*8,none⟩) (l.length-(k+1)) UNK),(5, .int .i64 ((k2+1:Nat):Int))]/\ds=[]∧
    WF h'∧h.next<=h'.next/\(∀z,z<lo->h'.get z=h.get z)/\(∀z∈h'.log,vB (.slice (some ⟨b,0,none⟩) l.length UNK) z)/\h'.get b=some (.cells (ssL m++tl) true 8)/\m.length=l.length/\(∀r∈m,IsS r)/\i<=k+1+k2/\m.take i=ddS (l.take (k+1+k2+1))/\m.drop (k+1+k2)=l.drop (k+1+k2))
    ⟨0,k+1,l,by omega,rfl,rfl,rfl,hr.wf,Nat.le_refl _,λ_ _=>rfl,(by rw[hr.log];intro z hz;cases hz),hb3,rfl,hl,Nat.le_refl _,hst.symm,rfl⟩ ?_
   rintro mm e ds H ⟨k2,i,m,hk2,rfl,rfl,rfl,hw,hnx,hold,hlg,gb,hm,hmR,hik,htk,hdr⟩;have hbn:b<H.next:=WF.bK hw gb
   clear hx hy hxs hys hst rx ry kx ky mlt msb hxy;by_cases hlt2:k2+1<l.length-(k+1)
   ·obtain⟨x',hx'⟩:∃r,l[k+1+k2+1]? =some r:=⟨l[k+1+k2+1],List.getElem?_eq_getElem (by omega)⟩;obtain⟨y',hy'⟩:∃r,l[k+1+k2]? =some r:=⟨l[k+1+k2],List.getElem?_eq_getElem (by omega)⟩;have mx:m[k+1+k2+1]? =some x':=by
     have e1:(m.drop (k+1+k2))[1]? =(l.drop (k+1+k2))[1]? :=by rw[hdr]
     rw[List.getElem?_drop,List.getElem?_drop]at e1;exact e1.trans hx'
    have my:m[k+1+k2]? =some y':=by
     have e1:(m.drop (k+1+k2))[0]? =(l.drop (k+1+k2))[0]? :=by rw[hdr]
     rw[List.getElem?_drop,List.getElem?_drop]at e1;exact e1.trans hy'
    have hxs:=hmR x' (List.mem_of_getElem? mx);have hys:=hmR y' (List.mem_of_getElem? my);have hst:=Cx hy' hx';have rx:=ql (t:=tl) hmR mx;have ry:=ql (t:=tl) hmR my;rw[show 0+(k+1+k2+1)*8=0+(k+1)*8+(k2+1)*8 by omega]at rx;rw[show 0+(k+1+k2)*8=0+(k+1)*8+k2*8 by omega]at ry;have kx:=bA hxs.len;have ky:=bA hys.len;have mlt:aq .lss (.int .i64 ((k2+1:Nat):Int)) (.int .i64 ((l.length-(k+1):Nat):Int))=some (.bool true):=ei (by omega);have msb:aq .sub (.int .i64 ((k2+1:Nat):Int)) (.int .i64 1)=some (.int .i64 ((k2:Nat):Int)):=mA (by rw[ct]<;>omega);by_cases hxy:y'=x'
    ·rw[if_pos hxy]at hst;refine Y23 ?_;refine bW rfl rfl rfl (by exact rfl) (by exact rfl) (by exact rfl) (oD (b:=y') (by exact rfl) (by exact rfl) hxs.len hys.len) ?_;rw[decide_eq_true hxy.symm];refine Y12 ?_;exact⟨l.length-(k+1)-(k2+1+1),by omega,k2+1,i,m,by omega,rfl,rfl,rfl,hw,hnx,hold,hlg,gb,hm,hmR,by omega,by rw[htk,←hst];rfl,zj hdr⟩
    ·rw[if_neg hxy]at hst;have kc:=BI (t:=tl) hmR hxs (i:=i) (by omega);have kw:cU (ssL m++tl) (0+i*8) (cellsOf (sv x'))=ssL (m.set i x')++tl:=by
      have e:cellsOf (sv x')=us x':=by show(us x').toArray.toList=_;simp
      rw[e,BF hmR hxs (by omega)]
     refine Y23 ?_;refine bW rfl rfl rfl (by exact rfl) (by exact rfl) (by exact rfl) (oD (b:=y') (by exact rfl) (by exact rfl) hxs.len hys.len) ?_;rw[decide_eq_false (Ne.symm hxy)];refine Y12 ?_;refine aD (jy (by exact rfl) (by exact rfl) gb kc kw) ?_;refine Y5 ?_;refine bL ?_;refine Y8 ?_;refine⟨l.length-(k+1)-(k2+1+1),by omega,k2+1,i+1,m.set i x',by omega,rfl,rfl,rfl,hw.as (AS.wr h.next _ _ _),hnx,?_,yq hlg ⟨_,_,rfl⟩,?_,by rw[List.length_set];exact hm,?_,by omega,?_,?_⟩
     ·intro z hz;rw[z5 (by omega)];exact hold z hz
     ·rw[z6,gb];rfl
     ·intro r hx;rcases List.mem_or_eq_of_mem_set hx with hx|rfl
      ·exact hmR r hx
      ·exact hxs
     ·rw[zU (by omega),htk,←Nat.add_assoc,hst]
     ·rw[zT (by omega)];exact zj hdr
   ·have hkl:k+1+k2+1=l.length:=by omega
    rw[hkl,List.take_length]at htk;have mlt:aq .lss (.int .i64 ((k2+1:Nat):Int)) (.int .i64 ((l.length-(k+1):Nat):Int))=some (.bool false):=eH (by omega);have hz:(eS (l.length-i) zS).length=(l.length-i)*8:=by rw[kA];rfl
    have hml:=fM hmR;refine Y16 ?_;refine aD (qG (by exact rfl) (by exact rfl) (by assumption) (by omega)) ?_;refine aD (FH (z:=zS) (by exact rfl) (by omega) gb (by rw[hz,List.length_append,hml];omega) (by exact BU _) rfl) ?_;refine Y4 ?_;refine aD (vJ (by exact rfl) (by exact rfl) YG (by omega) (by omega)) ?_;refine Y8 ?_;refine gX (yq hlg ⟨_,_,rfl⟩) rfl ?_;have hi2:(ddS l).length=i:=by
     rw[←htk,List.length_take];omega
    obtain⟨t',ht'⟩:=yb (t:=tl) (i:=i) (ws:=cU (ssL m++tl) (0+i*8) (eS (l.length-i) zS)) hmR (by omega) htk (by rw[hm]);refine .inr ⟨b,UNK,t',hb1,hbn,?_,?_,by unfold UNK;omega,λ_=>rfl⟩
    ·rw[z6,gb,z7,ht']
    ·rw[hi2];rfl
  ·rw[if_neg hxy,hdd,←fQ hx]at hst;refine Y23 ?_;refine bW rfl rfl rfl (by exact rfl) (by exact rfl) (by exact rfl) (oD (b:=y) (by exact rfl) (by exact rfl) hxs.len hys.len) ?_;rw[decide_eq_false (Ne.symm hxy)];refine Y12 ?_;exact⟨l.length-(k+1+1),by omega,k+1,by omega,rfl,rfl,rfl,rfl,hst⟩
 ·have hkl:k+1=l.length:=by omega
  rw[hkl,List.take_length]at hdd;have mlt:aq .lss (.int .i64 ((k+1:Nat):Int)) (.int .i64 (l.length:Nat))=some (.bool false):=eH (by omega);refine Y18 ?_;refine gX (by rw[hr.log];intro z hz;cases hz) rfl ?_;rw[hdd];exact .inr ⟨b,UNK,tl,hb1,hb2,hb3,rfl,hcl,λ_=>rfl⟩
end Go.A.Pk
end
