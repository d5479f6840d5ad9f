/- Solids. -/
import Derived.Test.YthnjljpaipomgaaGreatDoorQF
import Derived.Test.YthnjljpaipomgaaGreatDoorQD
set_option linter.all false
set_option maxRecDepth 100000
section
namespace Go.A.Pk
variable {T:Nat->Option aq}
abbrev U64:Nat:=18446744073709551616
def us(pl:List Nat):List Value:=pl.map λn=> .int .u64 (n:Nat)
def sv(pl:List Nat):Value:= .agg (us pl).toArray
structure IsS (s:List Nat):Prop where
 len:s.length=8
 lt:∀x∈s,x<U64
theorem aK(l:List Nat):(us l).length=l.length:=by simp[us]
theorem vG:∀l:List Nat,cZ (us l)=true
 |[]=>rfl
 |x::l=>by
  show cZ (.int .u64 (x:Nat)::us l)=true;simp only[cZ,mL,jY,cond_true];exact vG l
theorem jS(s:List Nat):cE (sv s)=true:=by
 show flat (.agg (us s).toArray)=true;simp only[flat];exact vG s
theorem dQ:∀l:List Nat,eC (us l)=true
 |[]=>rfl
 |x::l=>by
  show eC (.int .u64 (x:Nat)::us l)=true;simp only[eC];exact dQ l
variable{i n:Nat}
theorem nw{pl:List Nat}(hi:pl[i]? =some n):bK (us pl) (0+i*1)=some (.int .u64 (n:Nat)):=by
 rw[cH,rt,hX,us,rb,hi];rfl
variable{s:List Nat}
theorem cS(h:s.length=8):cG 8 (cw 0 (us s))=us s:=by
 rw[bQ,aW,py,gk (by rw[aK];omega)]
theorem bR(h:s.length=8):Nat.beq (cF (us s)) 8=true:=by
 rw[bX,aK,h];rfl
variable{l:List Nat}
theorem BN:us (l.set i n)=(us l).set (0+i*1) (.int .u64 (n:Nat)):=by
 rw[hX,rt,us,us,List.map_set]
def xX(f:Nat->Nat->Nat)(a b:List Nat):List Nat:=List.zipWith f a b
abbrev GW(x y:Nat):Nat:=Nat.xor x (Nat.land x y)
variable{x y:Nat}
theorem AR(a:x<U64):Nat.land x y<U64:=sh (Nat.and_le_left (n:=x) (m:=y)) a
theorem KU(a:x<U64)(b:y<U64):Nat.lor x y<U64:=Nat.or_lt_two_pow (n:=64) a b
theorem NR(a:x<U64):GW x y<U64:=Nat.xor_lt_two_pow (n:=64) a (AR a)
theorem KZ{a b:Nat}(f:a<U64)(hb:b<U64):an .andNot (.int .u64 a) (.int .u64 b)=some (.int .u64 ((GW a b:Nat):Int)):=by
 have c:((a:Nat):Int)=Int.ofNat a:=rfl;have d:((b:Nat):Int)=Int.ofNat b:=rfl;have e:(Nat.blt a 18446744073709551616&&Nat.blt b 18446744073709551616)=true:=by
  simp only[blt_eq,ed,decide_eq_true_eq];exact⟨f,hb⟩
 rw[c,d];simp only[an,arith,og,e,cond_true,if_true];rfl
def tn(f:Nat->Nat->Nat)(a b:List Nat)(i:Nat):List Nat:=List.zipWith f (a.take i) (b.take i)++a.drop i
theorem ug(f:Nat->Nat->Nat)(a b:List Nat):tn f a b 0=a:=by simp[tn]
variable{f:Nat->Nat->Nat}{a b:List Nat}
theorem wR(c:a.length=8)(hb:b.length=8):tn f a b 8=xX f a b:=by
 rw[tn,gk (by omega),gk (by omega),List.drop_eq_nil_of_le (by omega),oC,xX]
theorem wS(c:a.length=8)(hb:b.length=8)(hi:i<=8):(tn f a b i).length=8:=by
 simp[tn,c,hb];omega
theorem A0(c:a.length=8)(hb:b.length=8)(hi:a[i]? =some x):(tn f a b i)[i]? =some x:=by
 have d:i<8:=by rw[←c];exact(List.getElem?_eq_some_iff.1 hi).1
 rw[tn,gK (by simp[c,hb];omega)];simp[c,hb,tp (Nat.le_of_lt d),hi]
theorem wT(l:a.length=8)(hb:b.length=8)(d:a[i]? =some x)(e:b[i]? =some y):(tn f a b i).set i (f x y)=tn f a b (i+1):=by
 have g:i<a.length:=(List.getElem?_eq_some_iff.1 d).1;have h:i<b.length:=(List.getElem?_eq_some_iff.1 e).1;apply u3;intro j;have k:(List.zipWith f (a.take i) (b.take i)).length=i:=by simp;omega
 have c:(List.zipWith f (a.take (i+1)) (b.take (i+1))).length=i+1:=by simp;omega
 rw[zc];unfold tn;by_cases h1:i=j
 ·subst h1;rw[if_pos rfl,if_pos (by simp;omega)];rw[hG (by omega),Fr,gS (by omega),gS (by omega),d,e]
 ·rw[if_neg h1];by_cases h2:j<i
  ·rw[hG (by omega),hG (by omega),Fr,Fr];simp only[gS h2,gS (show j<i+1 by omega)]
  ·rw[gK (by omega),gK (by omega),k,c,me,me];congr 1;omega
theorem IsS.map(c:IsS a)(hb:IsS b)(d:∀x y,x<U64->y<U64->f x y<U64):IsS (xX f a b):=by
 refine⟨by simp[xX,c.len,hb.len],λz e=> ?_⟩;obtain⟨i,g,rfl⟩:=List.mem_iff_getElem.1 e;simp only[xX,List.getElem_zipWith];exact d _ _ (c.lt _ (sm _)) (hb.lt _ (sm _))
def lE(a b:List Nat):List Nat:=xX Nat.lor a b
def xY(a b:List Nat):List Nat:=xX Nat.land a b
def jv(a b:List Nat):List Nat:=xX GW a b
theorem IsS.join(e:IsS a)(hb:IsS b):IsS (lE a b):=e.map hb λ_ _ c d=>KU c d
theorem IsS.meet(d:IsS a)(hb:IsS b):IsS (xY a b):=d.map hb λ_ _ c _=>AR c
theorem IsS.less(d:IsS a)(hb:IsS b):IsS (jv a b):=d.map hb λ_ _ c _=>NR c
variable{h:Heap}
theorem F9(u:aF T)(r:T 75=some f174)(hr:Rdy h)(c:IsS a)(hb:IsS b):Pu T 75 [sv a,sv b] h (sv (lE a b)):=by
 refine .of u r hr (jS _) ?_;refine Y10 ?_;refine cT (λm e l d=>∃i:Nat,i<=8/\m=8-i/\e=[(2, .pointer (some ⟨h.next,0,none⟩)),(3, .pointer (some ⟨h.next+1,0,none⟩)),(4, .pointer (some ⟨h.next+2,0,none⟩)),(6, .int .i64 (i:Nat))]/\l=[]/\d.log=[]/\d.next=h.next+3∧
  d.get h.next=some (.cells (us (tn Nat.lor a b i)) true 1)/\d.get (h.next+1)=some (.cells (us b) true 1)/\d.get (h.next+2)=some (.cells (aR 8 (.int .u64 0)) true 1))
  ⟨0,by omega,rfl,rfl,rfl,hr.log,rfl,?_,?_,?_⟩ ?_
 ·rw[ug];(simp(disch:=first|omega|(simp only[z1,z2];omega))only[z3,z4,z5,z6,z7,z1,z2];exact rfl)
 ·exact YG
 ·exact YG
 rintro m e l B ⟨i,g,rfl,rfl,rfl,o,t,n,p,q⟩;by_cases hlt:i<8
 ·obtain⟨x,j⟩:∃x,a[i]? =some x:=⟨a[i]'(by rw[c.len];exact hlt),bx _⟩;obtain⟨y,k⟩:∃x,b[i]? =some x:=⟨b[i]'(by rw[hb.len];exact hlt),bx _⟩;have z:=nw (A0 (f:=Nat.lor) c.len hb.len j);have A:=nw k;have E:=Vy (c.lt _ (eA j)) (hb.lt _ (eA k));have D:=wS (f:=Nat.lor) c.len hb.len g;refine Y22 ?_;refine nW rfl rfl rfl (by exact rfl) (by exact rfl) (by exact rfl) (by assumption) (by exact rfl) (by exact rfl) (by(simp only[aK];omega)) (by omega) (by omega) (by(repeat apply aC rfl);exact aY) ?_;refine ux ?_;refine Y7 ?_;refine⟨8-(i+1),by omega,i+1,by omega,rfl,rfl,rfl,?_,?_,?_,?_,?_⟩
  ·rw[Heap.aD (bl _)];exact o
  ·exact t
  ·rw[z6,n,z7];rw[←wT c.len hb.len j k,BN]
  ·rw[z5 (by omega)];exact p
  ·rw[z5 (by omega)];exact q
 ·obtain rfl:i=8:=by omega
  rw[wR c.len hb.len]at n;have v:=cS (c.join hb).len;have w:=bR (c.join hb).len;have C:=(c.join hb).len;refine Y10 ?_;refine y4 ?_;refine yV ?_;refine aG (dg (by exact rfl) (by exact rfl) (by assumption) (by(simp only[aK];assumption)) (by exact rfl) (by exact dQ _)) ?_;refine y3 ?_;refine yH ?_;refine au ?_ (dW (own:=true) (s:=1) rfl ?_ v w rfl) rfl
  ·rw[Heap.aD (by omega)];exact o
  ·exact YG
theorem OT(u:aF T)(r:T 76=some f121)(hr:Rdy h)(c:IsS a)(hb:IsS b):Pu T 76 [sv a,sv b] h (sv (xY a b)):=by
 refine .of u r hr (jS _) ?_;refine Y10 ?_;refine cT (λm e l d=>∃i:Nat,i<=8/\m=8-i/\e=[(2, .pointer (some ⟨h.next,0,none⟩)),(3, .pointer (some ⟨h.next+1,0,none⟩)),(4, .pointer (some ⟨h.next+2,0,none⟩)),(6, .int .i64 (i:Nat))]/\l=[]/\d.log=[]/\d.next=h.next+3∧
  d.get h.next=some (.cells (us (tn Nat.land a b i)) true 1)/\d.get (h.next+1)=some (.cells (us b) true 1)/\d.get (h.next+2)=some (.cells (aR 8 (.int .u64 0)) true 1))
  ⟨0,by omega,rfl,rfl,rfl,hr.log,rfl,?_,?_,?_⟩ ?_
 ·rw[ug];(simp(disch:=first|omega|(simp only[z1,z2];omega))only[z3,z4,z5,z6,z7,z1,z2];exact rfl)
 ·exact YG
 ·exact YG
 rintro m e l B ⟨i,g,rfl,rfl,rfl,o,t,n,p,q⟩;by_cases hlt:i<8
 ·obtain⟨x,j⟩:∃x,a[i]? =some x:=⟨a[i]'(by rw[c.len];exact hlt),bx _⟩;obtain⟨y,k⟩:∃x,b[i]? =some x:=⟨b[i]'(by rw[hb.len];exact hlt),bx _⟩;have z:=nw (A0 (f:=Nat.land) c.len hb.len j);have A:=nw k;have E:=tf (c.lt _ (eA j)) (hb.lt _ (eA k));have D:=wS (f:=Nat.land) c.len hb.len g;refine Y22 ?_;refine nW rfl rfl rfl (by exact rfl) (by exact rfl) (by exact rfl) (by assumption) (by exact rfl) (by exact rfl) (by(simp only[aK];omega)) (by omega) (by omega) (by(repeat apply aC rfl);exact aY) ?_;refine ux ?_;refine Y7 ?_;refine⟨8-(i+1),by omega,i+1,by omega,rfl,rfl,rfl,?_,?_,?_,?_,?_⟩
  ·rw[Heap.aD (bl _)];exact o
  ·exact t
  ·rw[z6,n,z7];rw[←wT c.len hb.len j k,BN]
  ·rw[z5 (by omega)];exact p
  ·rw[z5 (by omega)];exact q
 ·obtain rfl:i=8:=by omega
  rw[wR c.len hb.len]at n;have v:=cS (c.meet hb).len;have w:=bR (c.meet hb).len;have C:=(c.meet hb).len;refine Y10 ?_;refine y4 ?_;refine yV ?_;refine aG (dg (by exact rfl) (by exact rfl) (by assumption) (by(simp only[aK];assumption)) (by exact rfl) (by exact dQ _)) ?_;refine y3 ?_;refine yH ?_;refine au ?_ (dW (own:=true) (s:=1) rfl ?_ v w rfl) rfl
  ·rw[Heap.aD (by omega)];exact o
  ·exact YG
theorem OF(u:aF T)(r:T 48=some f124)(hr:Rdy h)(c:IsS a)(hb:IsS b):Pu T 48 [sv a,sv b] h (sv (jv a b)):=by
 refine .of u r hr (jS _) ?_;refine Y10 ?_;refine cT (λm e l d=>∃i:Nat,i<=8/\m=8-i/\e=[(2, .pointer (some ⟨h.next,0,none⟩)),(3, .pointer (some ⟨h.next+1,0,none⟩)),(4, .pointer (some ⟨h.next+2,0,none⟩)),(6, .int .i64 (i:Nat))]/\l=[]/\d.log=[]/\d.next=h.next+3∧
  d.get h.next=some (.cells (us (tn GW a b i)) true 1)/\d.get (h.next+1)=some (.cells (us b) true 1)/\d.get (h.next+2)=some (.cells (aR 8 (.int .u64 0)) true 1))
  ⟨0,by omega,rfl,rfl,rfl,hr.log,rfl,?_,?_,?_⟩ ?_
 ·rw[ug];(simp(disch:=first|omega|(simp only[z1,z2];omega))only[z3,z4,z5,z6,z7,z1,z2];exact rfl)
 ·exact YG
 ·exact YG
 rintro m e l B ⟨i,g,rfl,rfl,rfl,o,t,n,p,q⟩;by_cases hlt:i<8
 ·obtain⟨x,j⟩:∃x,a[i]? =some x:=⟨a[i]'(by rw[c.len];exact hlt),bx _⟩;obtain⟨y,k⟩:∃x,b[i]? =some x:=⟨b[i]'(by rw[hb.len];exact hlt),bx _⟩;have z:=nw (A0 (f:=GW) c.len hb.len j);have A:=nw k;have E:=KZ (c.lt _ (eA j)) (hb.lt _ (eA k));have D:=wS (f:=GW) c.len hb.len g;refine Y22 ?_;refine nW rfl rfl rfl (by exact rfl) (by exact rfl) (by exact rfl) (by assumption) (by exact rfl) (by exact rfl) (by(simp only[aK];omega)) (by omega) (by omega) (by(repeat apply aC rfl);exact aY) ?_;refine ux ?_;refine Y7 ?_;refine⟨8-(i+1),by omega,i+1,by omega,rfl,rfl,rfl,?_,?_,?_,?_,?_⟩
  ·rw[Heap.aD (bl _)];exact o
  ·exact t
  ·rw[z6,n,z7];rw[←wT c.len hb.len j k,BN]
  ·rw[z5 (by omega)];exact p
  ·rw[z5 (by omega)];exact q
 ·obtain rfl:i=8:=by omega
  rw[wR c.len hb.len]at n;have v:=cS (c.less hb).len;have w:=bR (c.less hb).len;have C:=(c.less hb).len;refine Y10 ?_;refine y4 ?_;refine yV ?_;refine aG (dg (by exact rfl) (by exact rfl) (by assumption) (by(simp only[aK];assumption)) (by exact rfl) (by exact dQ _)) ?_;refine y3 ?_;refine yH ?_;refine au ?_ (dW (own:=true) (s:=1) rfl ?_ v w rfl) rfl
  ·rw[Heap.aD (by omega)];exact o
  ·exact YG
theorem Aj:∀(a b:List Nat),a.length=b.length->bF (aR a.length (.i .u64)) (us a) (us b)=some (decide (a=b))
 |[],[],_=>rfl
 |x::a,y::b,h=>by
  have hl:a.length=b.length:=by simpa using h
  have c:=Aj a b hl;show bF (aR (a.length+1) (.i .u64)) (.int .u64 (x:Nat)::us a) (.int .u64 (y:Nat)::us b)=_;simp only[aR,bF,iG,if_true];by_cases hxy:x=y
  ·subst hxy;simp only[beq_self_eq_true,c,List.cons.injEq,true_and]
  ·have:((x:Int)==(y:Int))=false:=by simp;omega
   simp only[this,c];rw[decide_eq_false];intro q;injection q with q _;exact hxy q
 |[],_::_,h=>by simp at h
 |_::_,[],h=>by simp at h
theorem II(c:a.length=8)(hb:b.length=8):bF (aR 8 (.i .u64)) (us a).toArray.toList (us b).toArray.toList=some (decide (a=b)):=by
 have:=Aj a b (by omega);rw[c]at this;simpa using this
theorem yh(pl:List Nat):iL (.agg (us pl).toArray) (.agg (us pl).toArray)=true:=by
 refine lH ?_;rw[xn];induction pl with
 |nil=>rfl
 |cons p pl ih=>exact bI (iI _ _) ih
def s0:List Nat:=[0,0,0,0,0,0,0,0]
theorem Gy:IsS s0:=⟨rfl,λx a=>by simp[s0]at a;subst a;decide⟩
variable{e:Env}
theorem oR{base:Nat}{x y:Operand}{c:Bool}(f:ev h e x=some (sv a))(g:ev h e y=some (sv b))(d:a.length=8)(hb:b.length=8):
 aop h base e (.bin (.agg c (aR 8 (.i .u64))) x y)=some (.val (.bool (bif c then !decide (a=b)else decide (a=b))) h):=TX f g (II d hb)
def sIn(a b:List Nat):Bool:=decide (xY a b=a)
theorem Ex(d:aF T)(e:T 46=some f35)(f:T 76=some f121)(hr:Rdy h)(c:IsS a)(hb:IsS b):Pu T 46 [sv a,sv b] h (.bool (sIn a b)):=by
 refine .of d e hr rfl ?_;have g:=cS c.len;have i:=bR c.len;have j:=cS hb.len;have k:=bR hb.len;refine Y7 ?_;refine aO rfl rfl rfl (by exact rfl) (by exact rfl) (by exact rfl) (di (by exact rfl) YG (by assumption) (by assumption)) ?_;refine aO rfl rfl rfl (by exact rfl) (by exact rfl) (by exact rfl) (di (by exact rfl) YG (by assumption) (by assumption)) ?_;refine aO rfl rfl rfl (by exact rfl) (by exact rfl) (by exact rfl) (di (by exact rfl) YG (by assumption) (by assumption)) ?_;refine qC ?_;refine FW.puD (OT d f (.of ((((hr.wf.push _).push _)))) c hb) (by apply ah rfl (af rfl (di (by exact rfl) YG (by assumption) (by assumption)) (by exact yh _)) rfl;(repeat apply aC rfl);exact aY) ?_;skip;refine aO rfl rfl rfl (by exact rfl) (by exact rfl) (by exact rfl) (oR (by exact rfl) (by exact rfl) (c.meet hb).len c.len) ?_;refine Y5 ?_;exact au hr.log rfl rfl
def bitsOf(x:Nat):List Nat:=(List.range 64).filter (Nat.testBit x)
theorem Dj:∀x:Nat,x≠0->∃k m,x=2 ^ k*(2*m+1)
 |x,hx=>by
  by_cases h:x % 2=1
  ·exact⟨0,x / 2,by omega⟩
  ·obtain⟨k,m,e⟩:=Dj (x / 2) (by omega);exact⟨k+1,m,by rw[ut,Nat.mul_comm (2 ^ k) 2,Nat.mul_assoc,←e];omega⟩
 termination_by x=>x
variable{k m:Nat}
theorem nL(h:x=2 ^ k*(2*m+1))(i:Nat):Nat.testBit x i=(if i<k then false else if i=k then true else Nat.testBit m (i-k-1)):=by
 rw[h,Nat.testBit_two_pow_mul];by_cases h1:i<k
 ·simp[h1,show¬k<=i by omega]
 ·rw[if_neg h1];simp only[ge_iff_le,show k<=i by omega,decide_true,rn];by_cases h2:i=k
  ·subst h2;simp
  ·rw[if_neg h2,show i-k=(i-k-1)+1 by omega,Nat.testBit_succ];congr 1;omega
theorem AX(h:x=2 ^ k*(2*m+1))(g:x<2 ^ 64):k<64/\Nat.land x (2 ^ 64-x)=2 ^ k:=by
 have e:k<64:=by
  apply Nat.lt_of_not_le;intro e;have b:2 ^ 64<=2 ^ k:=rh (by omega) e;have c:2 ^ k*1<=2 ^ k*(2*m+1):=sT _ (by omega);omega
 refine⟨e,?_⟩;obtain⟨d,j⟩:∃d,64=k+1+d:=⟨63-k,by omega⟩;have f:2 ^ 64=2 ^ k*(2*2 ^ d):=by rw[j,Nat.pow_add,ut,Nat.mul_assoc]
 have l:2*m+1<2*2 ^ d:=by
  rw[h,f]at g;exact Nat.lt_of_mul_lt_mul_left g
 have a:2 ^ 64-x=2 ^ k*(2*(2 ^ d-(m+1))+1):=by
  rw[h,f,←Nat.mul_sub];congr 1;omega
 rw[a,h];apply Nat.eq_of_testBit_eq;intro i;show Nat.testBit (_&&&_) i=_;rw[Nat.testBit_and,nL rfl,nL rfl,Nat.testBit_two_pow];by_cases b:i<k
 ·simp[b,show¬k=i by omega]
 ·by_cases c:i=k
  ·subst c;simp
  ·simp only[b,c,if_false,show¬k=i by omega,decide_false];rw[Nat.testBit_two_pow_sub_succ (by omega)];cases Nat.testBit m (i-k-1)<;>simp
theorem KV(h:x=2 ^ k*(2*m+1))(i:Nat):Nat.testBit (Nat.land x (x-1)) i=(Nat.testBit x i&&decide (i≠k)):=by
 have a:0<2 ^ k:=xx (by omega);have b:x-1=2 ^ k*(2*m)+(2 ^ k-1):=by
  rw[h,Nat.mul_add];omega
 show Nat.testBit (x&&&(x-1)) i=_;rw[Nat.testBit_and,b,tz _ (by omega)];by_cases h2:i<k
 ·rw[if_pos h2,nL h,if_pos h2];simp
 ·rw[if_neg h2];by_cases h3:i=k
  ·subst h3;simp
  ·rw[nL h,if_neg h2,if_neg h3,show i-k=(i-k-1)+1 by omega,Nat.testBit_succ,show 2*m / 2=m by omega];simp[h3]
theorem sU:∀(n a:Nat) (p q:Nat->Bool) (k:Nat),a<=k->k<a+n->p k=true->(∀i,a<=i->i<k->p i=false)->(∀i,q i=(p i&&decide (i≠k)))->(List.range' a n).filter p=k::(List.range' a n).filter q
 |0,a,p,q,k,d,b,_,_,_=>by omega
 |n+1,a,p,q,k,d,b,h3,h4,h5=>by
  rw[List.range'_succ];by_cases ha:a=k
  ·subst ha;have c:q a=false:=by rw[h5];simp
   rw[zz h3,xi (by rw[c];simp)];congr 1;apply yn;intro i f;have:a<i:=by
    have:=(List.mem_range'_1.1 f).1;omega
   rw[h5];simp;intro _;omega
  ·have e:p a=false:=h4 a (bl _) (by omega);have c:q a=false:=by rw[h5,e];rfl
   rw[xi (by rw[e];simp),xi (by rw[c];simp)];exact sU n (a+1) p q k (by omega) (by omega) h3 (λi d b=>h4 i (by omega) b) h5
theorem Cg(h:x=2 ^ k*(2*m+1))(b:x<2 ^ 64):bitsOf x=k::bitsOf (Nat.land x (x-1)):=by
 have c:=(AX h b).1;unfold bitsOf;rw[List.range_eq_range'];refine sU 64 0 _ _ k (md _) (by omega) (by rw[nL h];simp) (λi _ a=>by rw[nL h,if_pos a]) (λi=>KV h i)
theorem Ch:bitsOf 0=[]:=by
 unfold bitsOf;rw[List.filter_eq_nil_iff];intro i _;simp
def Cu:List Nat:=[0,1,56,2,57,49,28,3,61,58,42,50,38,29,17,4,62,47,59,36,45,43,51,22,53,39,33,30,24,18,12,5,63,55,48,27,60,41,37,16,46,35,44,21,52,32,23,11,54,26,40,15,34,20,31,10,25,14,19,9,13,8,7,6]
theorem RO:∀k:Fin 64,Cu[((2 ^ k.val*285870213051353865) % 18446744073709551616)>>>58]? =some k.val:=by decide
def pop8(b:Nat):Nat:=((List.range 8).filter (Nat.testBit b)).length
variable{M q:Nat}
theorem HK{r c s:Nat}(hr:r<256)(j:s<=8)(e:c<2 ^ (8-s)):Nat.land (Nat.shiftRight (2 ^ 8*q+r) s) (2 ^ 8*M+c)=2 ^ 8*Nat.land (Nat.shiftRight q s) M+Nat.land (Nat.shiftRight r s) c:=by
 have d:c<2 ^ 8:=hK e (rh (by omega) (by omega));have h:Nat.land (Nat.shiftRight r s) c<2 ^ 8:=sh (Nat.and_le_right (n:=Nat.shiftRight r s) (m:=c)) d;apply Nat.eq_of_testBit_eq;intro i;have f:∀a b:Nat,Nat.land a b=a&&&b:=λ_ _=>rfl;have g:∀a b:Nat,Nat.shiftRight a b=a>>>b:=λ_ _=>rfl;rw[tz _ h];simp only[f,g,Nat.testBit_and,Nat.testBit_shiftRight];rw[tz _ hr,tz _ d];by_cases hi:i<8
 ·rw[if_pos hi,if_pos hi];by_cases hsi:s+i<8
  ·rw[if_pos hsi]
  ·have:c.testBit i=false:=Nat.testBit_lt_two_pow (hK e (rh (by omega) (by omega)));rw[this,Bool.and_false,Bool.and_false]
 ·rw[if_neg hi,if_neg hi,if_neg (by omega)];congr 2;omega
theorem K5{s:Nat}(b:q=0):Nat.land (Nat.shiftRight q s) M=0:=by
 subst b;have a:Nat.land (Nat.shiftRight 0 s) M=(0>>>s)&&&M:=rfl;rw[a];simp
def byt(l:List Nat):Nat:=l.foldr (λb q=>2 ^ 8*q+b) 0
theorem gi(b:Nat)(l:List Nat):byt (b::l)=2 ^ 8*byt l+b:=rfl
theorem kg{c s:Nat}(d:s<=8)(a:c<2 ^ (8-s)):∀l:List Nat,(∀b∈l,b<256)->Nat.land (Nat.shiftRight (byt l) s) (byt (l.map λ_=>c))=byt (l.map λb=>Nat.land (Nat.shiftRight b s) c)
 |[],_=>K5 rfl
 |b::l,h=>by
  rw[pD,pD,gi,gi,gi,HK (h b b6) d a,kg d a l λx hx=>h x (bz _ hx)]
theorem Ay(f g:Nat->Nat):∀l:List Nat,byt (l.map f)+byt (l.map g)=byt (l.map λb=>f b+g b)
 |[]=>rfl
 |b::l=>by
  simp only[pD,gi];rw[←Ay f g l];omega
theorem JL(x:Nat):∀n,x<2 ^ (8*n)->∃l:List Nat,l.length=n/\(∀b∈l,b<256)/\x=byt l
 |0,h=>⟨[],rfl,λ_ h=>by simp at h,by simp at h;exact h⟩
 |n+1,h=>by
  obtain⟨l,h1,h2,h3⟩:=JL (x / 2 ^ 8) n (by
   rw[Nat.div_lt_iff_lt_mul (by omega),←Nat.pow_add];exact hK h (rh (by omega) (by omega)))
  refine⟨x % 2 ^ 8::l,by simp[h1],λb a=> ?_,?_⟩
  ·rcases List.mem_cons.1 a with rfl|a
   ·exact Nat.mod_lt _ (by omega)
   ·exact h2 b a
  ·rw[gi,←h3];omega
theorem Cn:∀(n:Nat) (l:List Nat),l.length=n->(∀b∈l,b<256)->((List.range (8*n)).filter (Nat.testBit (byt l))).length=(l.map pop8).sum
 |0,l,h,_=>by
  have:l=[]:=List.length_eq_zero_iff.1 h;subst this;rfl
 |n+1,[],h,_=>by simp at h
 |n+1,b::l,h,hb=>by
  have e:=Cn n l (by simpa using h) λx d=>hb x (bz _ d);have a:b<2 ^ 8:=hb b b6;rw[show 8*(n+1)=8+8*n by omega,List.range_add,wi,ec,pD,List.sum_cons];congr 1
  ·unfold pop8;congr 1;apply yn;intro i c;rw[gi,tz _ a,if_pos (by simpa using c)]
  ·rw[←e,List.filter_map,po];congr 1;apply yn;intro i c;show Nat.testBit (byt (b::l)) (8+i)=_;rw[gi,tz _ a,if_neg (by omega)];congr 1;omega
def st1(b:Nat):Nat:=Nat.land (Nat.shiftRight b 1) 85+Nat.land (Nat.shiftRight b 0) 85
def st2(b:Nat):Nat:=Nat.land (Nat.shiftRight b 2) 51+Nat.land (Nat.shiftRight b 0) 51
theorem MW:∀b:Fin 256,st1 b.val<256/\st2 (st1 b.val)<256/\st2 (st1 b.val) % 16+st2 (st1 b.val) / 16=pop8 b.val/\pop8 b.val<=8/\st2 (st1 b.val) % 16<=4/\st2 (st1 b.val) / 16<=4:=by decide
theorem len8{α:Type}{l:List α}(h:l.length=8):∃a b c d e f g i,l=[a,b,c,d,e,f,g,i]:=by
 match l,h with
 |[a,b,c,d,e,f,g,i],_=>exact⟨a,b,c,d,e,f,g,i,rfl⟩
theorem tS(h:l.length=8)(c:Nat):byt (l.map λ_=>c)=c*72340172838076673:=by
 obtain⟨a,b,d,e,f,g,i,j,rfl⟩:=len8 h;show byt [c,c,c,c,c,c,c,c]=_;unfold byt;simp only[List.foldr];omega
theorem pg:∀{l:List Nat} (n:Nat),l.length=n->(∀b∈l,b<256)->byt l<2 ^ (8*n)
 |[],n,h,_=>by subst h;show 0<2 ^ 0;omega
 |b::l,n,h,hb=>by
  obtain⟨m,rfl⟩:∃m,n=m+1:=⟨n-1,by simp at h;omega⟩;have d:=pg m (by simpa using h) λx a=>hb x (bz _ a);have c:=hb b b6;rw[gi,show 8*(m+1)=8*m+8 by omega,Nat.pow_add];omega
theorem vr:byt []=0:=rfl
theorem oh{b:Nat}(h:b<256):byt (b::l) / 2 ^ 8=byt l:=by rw[gi];omega
structure Ww (x a1 b1 c1 a2 b2 c2 c3 c4 c5 c6:Nat):Prop where
 s1:Nat.land (Nat.shiftRight x 1) 6148914691236517205=a1/\Nat.land x 6148914691236517205=b1/\a1+b1=c1/\a1+b1<U64/\c1<U64
 s2:Nat.land (Nat.shiftRight c1 2) 3689348814741910323=a2/\Nat.land c1 3689348814741910323=b2/\a2+b2=c2/\a2+b2<U64/\c2<U64
 s3:Nat.shiftRight c2 4+c2<U64/\Nat.land (Nat.shiftRight c2 4+c2) 1085102592571150095=c3/\c3<U64
 s4:c3+Nat.shiftRight c3 8=c4/\c4<U64
 s5:c4+Nat.shiftRight c4 16=c5/\c5<U64
 s6:c5+Nat.shiftRight c5 32=c6/\c6<9223372036854775808
 fin:c6 % 128=(bitsOf x).length
theorem PV(x:Nat):Nat.shiftRight x 0=x:=rfl
theorem MN(x n:Nat):Nat.shiftRight x n=x / 2 ^ n:=Nat.shiftRight_eq_div_pow x n
theorem Sb(b:Nat):Nat.land b 15=b % 16:=Nat.and_two_pow_sub_one_eq_mod b 4
theorem XV(hx:x<U64):∃H b1 c1 a2 b2 c2 c3 c4 c5 c6,Ww x H b1 c1 a2 b2 c2 c3 c4 c5 c6:=by
 obtain⟨l,G,t,rfl⟩:=JL x 8 hx;have p:∀b∈l,st1 b<256/\st2 (st1 b)<256/\st2 (st1 b) % 16+st2 (st1 b) / 16=pop8 b/\pop8 b<=8/\st2 (st1 b) % 16<=4/\st2 (st1 b) / 16<=4:=λb e=>MW ⟨b,t b e⟩;have m1:=kg (c:=85) (s:=1) (by omega) (by decide) l t;have W:=kg (c:=85) (s:=0) (by omega) (by decide) l t;rw[tS G]at m1 W;rw[PV]at W;have Y:byt (l.map λb=>Nat.land (Nat.shiftRight b 1) 85)+byt (l.map λb=>Nat.land (Nat.shiftRight b 0) 85)=byt (l.map st1):=Ay _ _ l;have D:(l.map st1).length=8:=by simp[G]
 have o:∀b∈l.map st1,b<256:=λb e=>by
  obtain⟨a,C,rfl⟩:=List.mem_map.1 e;exact(p a C).1
 have E:=pg 8 D o;have n1:=kg (c:=51) (s:=2) (by omega) (by decide) (l.map st1) o;have X:=kg (c:=51) (s:=0) (by omega) (by decide) (l.map st1) o;rw[tS D]at n1 X;rw[PV]at X;have Z:byt ((l.map st1).map λb=>Nat.land (Nat.shiftRight b 2) 51)+byt ((l.map st1).map λb=>Nat.land (Nat.shiftRight b 0) 51)=byt ((l.map st1).map st2):=Ay _ _ _;have A:((l.map st1).map st2).length=8:=by simp[G]
 have u:∀b∈(l.map st1).map st2,b<256:=λb e=>by
  obtain⟨H,w,rfl⟩:=List.mem_map.1 e;obtain⟨a,C,rfl⟩:=List.mem_map.1 w;exact(p a C).2.1
 have F:=pg 8 A u;have r:∀b∈(l.map st1).map st2,b % 16<=4/\b / 16<=4:=λb e=>by
  obtain⟨H,w,rfl⟩:=List.mem_map.1 e;obtain⟨a,C,rfl⟩:=List.mem_map.1 w;exact(p a C).2.2.2.2
 have v:(((l.map st1).map st2).map λb=>b % 16+b / 16).sum=(bitsOf (byt l)).length:=by
  have I:(bitsOf (byt l)).length=(l.map pop8).sum:=Cn 8 l G t;rw[I,List.map_map,List.map_map];congr 1;apply List.map_congr_left;intro b e;exact(p b e).2.2.1
 generalize(l.map st1).map st2=m at*;obtain⟨n,f,g,h,i,j,k,d,rfl⟩:=len8 A;have J:=r n (by simp);have K:=r f (by simp);have L:=r g (by simp);have M:=r h (by simp);have N:=r i (by simp);have O:=r j (by simp);have P:=r k (by simp);have k7:=r d (by simp);have hm:byt [n,f,g,h,i,j,k,d]=n+256*f+65536*g+16777216*h+4294967296*i+1099511627776*j+281474976710656*k+72057594037927936*d:=by
  unfold byt;simp only[List.foldr];omega
 have hz:Nat.shiftRight (byt [n,f,g,h,i,j,k,d]) 4+byt [n,f,g,h,i,j,k,d]=byt [n+n / 16+16*(f % 16),f+f / 16+16*(g % 16),g+g / 16+16*(h % 16),h+h / 16+16*(i % 16),i+i / 16+16*(j % 16),j+j / 16+16*(k % 16),k+k / 16+16*(d % 16),d+d / 16]:=by
  rw[MN,hm];unfold byt;simp only[List.foldr];omega
 have B:∀b∈[n+n / 16+16*(f % 16),f+f / 16+16*(g % 16),g+g / 16+16*(h % 16),h+h / 16+16*(i % 16),i+i / 16+16*(j % 16),j+j / 16+16*(k % 16),k+k / 16+16*(d % 16),d+d / 16],b<256:=by
  intro b e;simp only[ui,xr,or_false]at e;rcases e with rfl|rfl|rfl|rfl|rfl|rfl|rfl|rfl<;>omega
 have p1:=kg (c:=15) (s:=0) (by omega) (by decide) _ B;rw[tS (by rfl),PV]at p1;have V:=pg 8 (by rfl) B
 have hy:byt ([n+n / 16+16*(f % 16),f+f / 16+16*(g % 16),g+g / 16+16*(h % 16),h+h / 16+16*(i % 16),i+i / 16+16*(j % 16),j+j / 16+16*(k % 16),k+k / 16+16*(d % 16),d+d / 16].map λb=>Nat.land (Nat.shiftRight b 0) 15)=
  byt [n % 16+n / 16,f % 16+f / 16,g % 16+g / 16,h % 16+h / 16,i % 16+i / 16,j % 16+j / 16,k % 16+k / 16,d % 16+d / 16]:=by
  simp only[List.map,PV,Sb];have q:∀x y:Nat,x % 16<=4->x / 16<=4->(x+x / 16+16*(y % 16)) % 16=x % 16+x / 16:=λx y h1 h2=>by omega
  rw[q _ _ J.1 J.2,q _ _ K.1 K.2,q _ _ L.1 L.2,q _ _ M.1 M.2,q _ _ N.1 N.2,q _ _ O.1 O.2,q _ _ P.1 P.2,show(d+d / 16) % 16=d % 16+d / 16 by omega]
 simp only[List.map,List.sum_cons,List.sum_nil]at v;have r0:n % 16+n / 16<=8:=by omega
 have r1:f % 16+f / 16<=8:=by omega
 have r2:g % 16+g / 16<=8:=by omega
 have r3:h % 16+h / 16<=8:=by omega
 have r4:i % 16+i / 16<=8:=by omega
 have r5:j % 16+j / 16<=8:=by omega
 have r6:k % 16+k / 16<=8:=by omega
 have r7:d % 16+d / 16<=8:=by omega
 clear r B u A;generalize n % 16+n / 16=d0 at*;generalize f % 16+f / 16=d1 at*;generalize g % 16+g / 16=d2 at*;generalize h % 16+h / 16=d3 at*;generalize i % 16+i / 16=d4 at*;generalize j % 16+j / 16=d5 at*;generalize k % 16+k / 16=d6 at*;generalize d % 16+d / 16=d7 at*;clear J K L M N O P k7;have v4:byt [d0,d1,d2,d3,d4,d5,d6,d7] / 2 ^ 8=byt [d1,d2,d3,d4,d5,d6,d7]:=oh (by omega);have w4:byt [d0,d1,d2,d3,d4,d5,d6,d7]+byt [d1,d2,d3,d4,d5,d6,d7]=byt [d0+d1,d1+d2,d2+d3,d3+d4,d4+d5,d5+d6,d6+d7,d7]:=by
  simp only[gi,vr];omega
 have v5:byt [d0+d1,d1+d2,d2+d3,d3+d4,d4+d5,d5+d6,d6+d7,d7] / 2 ^ 16=byt [d2+d3,d3+d4,d4+d5,d5+d6,d6+d7,d7]:=by
  rw[show 2 ^ 16=2 ^ 8*2 ^ 8 from rfl,←Nat.div_div_eq_div_mul,oh (by omega),oh (by omega)]
 have w5:byt [d0+d1,d1+d2,d2+d3,d3+d4,d4+d5,d5+d6,d6+d7,d7]+byt [d2+d3,d3+d4,d4+d5,d5+d6,d6+d7,d7]=byt [d0+d1+d2+d3,d1+d2+d3+d4,d2+d3+d4+d5,d3+d4+d5+d6,d4+d5+d6+d7,d5+d6+d7,d6+d7,d7]:=by
  simp only[gi,vr];omega
 have v6:byt [d0+d1+d2+d3,d1+d2+d3+d4,d2+d3+d4+d5,d3+d4+d5+d6,d4+d5+d6+d7,d5+d6+d7,d6+d7,d7] / 2 ^ 32=byt [d4+d5+d6+d7,d5+d6+d7,d6+d7,d7]:=by
  rw[show 2 ^ 32=2 ^ 8*2 ^ 8*2 ^ 8*2 ^ 8 from rfl,←Nat.div_div_eq_div_mul,←Nat.div_div_eq_div_mul,←Nat.div_div_eq_div_mul,oh (by omega),oh (by omega),oh (by omega),oh (by omega)]
 have w6:byt [d0+d1+d2+d3,d1+d2+d3+d4,d2+d3+d4+d5,d3+d4+d5+d6,d4+d5+d6+d7,d5+d6+d7,d6+d7,d7]+byt [d4+d5+d6+d7,d5+d6+d7,d6+d7,d7]=byt [d0+d1+d2+d3+d4+d5+d6+d7,d1+d2+d3+d4+d5+d6+d7,d2+d3+d4+d5+d6+d7,d3+d4+d5+d6+d7,d4+d5+d6+d7,d5+d6+d7,d6+d7,d7]:=by
  simp only[gi,vr];omega
 have Q:byt [d0,d1,d2,d3,d4,d5,d6,d7]<U64:=pg 8 rfl (by intro b e;simp only[ui,xr,or_false]at e;omega);have S:byt [d0+d1,d1+d2,d2+d3,d3+d4,d4+d5,d5+d6,d6+d7,d7]<U64:=pg 8 rfl (by intro b e;simp only[ui,xr,or_false]at e;omega);have T:byt [d0+d1+d2+d3,d1+d2+d3+d4,d2+d3+d4+d5,d3+d4+d5+d6,d4+d5+d6+d7,d5+d6+d7,d6+d7,d7]<U64:=pg 8 rfl (by intro b e;simp only[ui,xr,or_false]at e;omega);have U:byt [d0+d1+d2+d3+d4+d5+d6+d7,d1+d2+d3+d4+d5+d6+d7,d2+d3+d4+d5+d6+d7,d3+d4+d5+d6+d7,d4+d5+d6+d7,d5+d6+d7,d6+d7,d7]<9223372036854775808:=by
  have h7:=pg (l:=[d0+d1+d2+d3+d4+d5+d6+d7,d1+d2+d3+d4+d5+d6+d7,d2+d3+d4+d5+d6+d7,d3+d4+d5+d6+d7,d4+d5+d6+d7,d5+d6+d7,d6+d7]) 7 rfl (by intro b e;simp only[ui,xr,or_false]at e;omega);simp only[gi,vr]at h7⊢;omega
 have fin:byt [d0+d1+d2+d3+d4+d5+d6+d7,d1+d2+d3+d4+d5+d6+d7,d2+d3+d4+d5+d6+d7,d3+d4+d5+d6+d7,d4+d5+d6+d7,d5+d6+d7,d6+d7,d7] % 128=d0+d1+d2+d3+d4+d5+d6+d7:=by
  rw[gi];generalize byt _=z;omega
 refine⟨_,_,_,_,_,_,byt [d0,d1,d2,d3,d4,d5,d6,d7],byt [d0+d1,d1+d2,d2+d3,d3+d4,d4+d5,d5+d6,d6+d7,d7],byt [d0+d1+d2+d3,d1+d2+d3+d4,d2+d3+d4+d5,d3+d4+d5+d6,d4+d5+d6+d7,d5+d6+d7,d6+d7,d7],byt [d0+d1+d2+d3+d4+d5+d6+d7,d1+d2+d3+d4+d5+d6+d7,d2+d3+d4+d5+d6+d7,d3+d4+d5+d6+d7,d4+d5+d6+d7,d5+d6+d7,d6+d7,d7],⟨m1,W,Y,?_,E⟩,⟨n1,X,Z,?_,F⟩,⟨?_,?_,Q⟩,⟨?_,S⟩,⟨?_,T⟩,⟨?_,U⟩,?_⟩
 ·rw[Y];exact E
 ·rw[Z];exact F
 ·rw[hz];exact V
 ·rw[hz];exact p1.trans hy
 ·rw[MN,v4,w4]
 ·rw[MN,v5,w5]
 ·rw[MN,v6,w6]
 ·rw[fin,←v];omega
abbrev Tab(h:Heap):Prop:=h.get 0=some (.cells (Cu.map λn=> .int .u8 (n:Nat)) false 1)
theorem RU(g:Tab h):ev h e (.global 0)=some (.pointer (some ⟨0,0,none⟩)):=by
 simp only[ev];rw[g]
theorem Tab.ext{h':Heap}(g:Tab h)(x:Ext h h')(a:0<h.next):Tab h':=(x.old 0 a).trans g
theorem KY{v:Nat}(e:v<9223372036854775808):an .and (.int .i64 (v:Nat)) (.int .i64 127)=some (.int .i64 ((v % 128:Nat):Int)):=by
 have a:(BitVec.ofInt 64 ((v:Nat):Int)).toNat=v:=by rw[BitVec.ofInt_natCast,BitVec.toNat_ofNat];omega
 have b:(BitVec.ofInt 64 (127:Int)).toNat=127:=by decide
 have c:((BitVec.ofInt 64 ((v:Nat):Int))&&&(BitVec.ofInt 64 (127:Int))).toNat=v % 128:=by
  rw[BitVec.toNat_and,a,b];exact Nat.and_two_pow_sub_one_eq_mod v 7
 show arith .and .i64 (v:Nat) 127=_;have:arith .and .i64 (v:Nat) 127=some (.int .i64 (IntKind.i64.wrap ((BitVec.ofInt 64 ((v:Nat):Int))&&&(BitVec.ofInt 64 (127:Int))).toNat)):=rfl;rw[this,c];have d:IntKind.i64.wrap ((v % 128:Nat):Int)=((v % 128:Nat):Int):=by
  unfold IntKind.wrap;simp[IntKind.signed,IntKind.bits];omega
 rw[d]
theorem Pa(G:aF T)(F:T 109=some f254)(hr:Rdy h)(i:x<U64):Pu T 109 [.int .u64 (x:Nat)] h (.int .i64 ((bitsOf x).length:Nat)):=by
 refine .of G F hr rfl ?_;obtain⟨a1,b1,c,a2,b2,d,e,f,g,E,⟨z,A,B,Z,C⟩,⟨u,v,w,Y,p5⟩,⟨s,t,o3⟩,⟨r,X⟩,⟨q,W⟩,⟨p,V⟩,fin⟩:=XV i;have D:∀y n:Nat,y<U64->Nat.shiftRight y n<U64:=λy n H=>sh (by rw[MN];exact Nat.div_le_self _ _) H;have k1:an .shr (.int .u64 (x:Nat)) (.int .u64 1)=some (.int .u64 ((Nat.shiftRight x 1:Nat):Int)):=uS (n:=1) (by omega);have N:an .and (.int .u64 ((Nat.shiftRight x 1:Nat):Int)) (.int .u64 6148914691236517205)=_:=tf (a:=Nat.shiftRight x 1) (b:=6148914691236517205) (D _ _ i) (by omega);have O:an .and (.int .u64 (x:Nat)) (.int .u64 6148914691236517205)=_:=tf (a:=x) (b:=6148914691236517205) i (by omega);rw[z]at N;rw[A]at O;have P:=ud Z;rw[B]at P;have k5:an .shr (.int .u64 (c:Nat)) (.int .u64 2)=some (.int .u64 ((Nat.shiftRight c 2:Nat):Int)):=uS (n:=2) (by omega);have Q:an .and (.int .u64 ((Nat.shiftRight c 2:Nat):Int)) (.int .u64 3689348814741910323)=_:=tf (a:=Nat.shiftRight c 2) (b:=3689348814741910323) (D _ _ C) (by omega);have S:an .and (.int .u64 (c:Nat)) (.int .u64 3689348814741910323)=_:=tf (a:=c) (b:=3689348814741910323) C (by omega);rw[u]at Q;rw[v]at S;have U:=ud Y;rw[w]at U;have k9:an .shr (.int .u64 (d:Nat)) (.int .u64 4)=some (.int .u64 ((Nat.shiftRight d 4:Nat):Int)):=uS (n:=4) (by omega);have I:=ud s;have j:an .and (.int .u64 ((Nat.shiftRight d 4+d:Nat):Int)) (.int .u64 1085102592571150095)=_:=tf (b:=1085102592571150095) s (by omega);rw[t]at j;have J:an .shr (.int .u64 (e:Nat)) (.int .u64 8)=some (.int .u64 ((Nat.shiftRight e 8:Nat):Int)):=uS (n:=8) (by omega);have k:=ud (a:=e) (b:=Nat.shiftRight e 8) (by rw[r];exact X);rw[r]at k;have K:an .shr (.int .u64 (f:Nat)) (.int .u64 16)=some (.int .u64 ((Nat.shiftRight f 16:Nat):Int)):=uS (n:=16) (by omega);have l:=ud (a:=f) (b:=Nat.shiftRight f 16) (by rw[q];exact W);rw[q]at l;have L:an .shr (.int .u64 (g:Nat)) (.int .u64 32)=some (.int .u64 ((Nat.shiftRight g 32:Nat):Int)):=uS (n:=32) (by omega);have m:=ud (a:=g) (b:=Nat.shiftRight g 32) (by rw[p];omega);rw[p]at m;have o:=KY V;rw[fin]at o;have M:=bO (n:=(E:Int)) (by omega) (by omega);clear z A B u v w t r q p;refine Y40 ?_;refine Y12 ?_;refine aG (vO (by exact rfl) (by assumption)) ?_;refine Y4 ?_;exact au hr.log rfl rfl
theorem wrap_u64(n:Int):IntKind.u64.wrap n=n % 18446744073709551616:=by
 unfold IntKind.wrap;simp[IntKind.signed,IntKind.bits]
theorem FD(n:Nat):fE .u64 (n:Int)=((n % 18446744073709551616:Nat):Int):=by
 by_cases h:n<18446744073709551616
 ·rw[nX h,Nat.mod_eq_of_lt h]
 ·have e:((n:Nat):Int)=Int.ofNat n:=rfl;rw[e];simp only[fE];rw[tq h,cond_false,wrap_u64];rfl
theorem Wd(t:aF T)(p:T 103=some f266)(hr:Rdy h)(l:Tab h)(g:x<U64)(c:x=2 ^ k*(2*m+1)):Pu T 103 [.int .u64 (x:Nat)] h (.int .i64 (k:Nat)):=by
 refine .of t p hr rfl ?_;obtain⟨s,d⟩:=AX c g;have u:0<x:=by
  rw[c];exact Nat.mul_pos (xx (by omega)) (by omega)
 have z:an .eql (.int .u64 (x:Nat)) (.int .u64 0)=some (.bool false):=iH (by omega);have A:yp .neg (.int .u64 (x:Nat))=some (.int .u64 ((2 ^ 64-x:Nat):Int)):=by
  show some (Value.int .u64 (fE .u64 (0-(x:Int))))=_;have:fE .u64 (0-(x:Int))=((2 ^ 64-x:Nat):Int):=by
   obtain⟨y,rfl⟩:∃y,x=y+1:=⟨x-1,by omega⟩;have e:(0-((y+1:Nat):Int))=Int.negSucc y:=by omega
   rw[e];simp only[fE];rw[tq (by omega),cond_false,wrap_u64,Int.negSucc_emod _ (by omega)];have:(y:Int) % 18446744073709551616=y:=Int.emod_eq_of_lt (by omega) (by unfold U64 at g;omega);unfold U64 at g;omega
  rw[this]
 have v:=tf (a:=x) (b:=2 ^ 64-x) g (by omega);rw[d]at v;have B:an .mul (.int .u64 ((2 ^ k:Nat):Int)) (.int .u64 285870213051353865)=some (.int .u64 (((2 ^ k*285870213051353865) % 18446744073709551616:Nat):Int)):=by
  show some (Value.int .u64 (fE .u64 (((2 ^ k:Nat):Int)*285870213051353865)))=_;rw[←FD];congr 2
 have C:an .shr (.int .u64 (((2 ^ k*285870213051353865) % 18446744073709551616:Nat):Int)) (.int .u64 58)=some (.int .u64 ((Nat.shiftRight ((2 ^ k*285870213051353865) % 18446744073709551616) 58:Nat):Int)):=uS (n:=58) (by omega);have f:=RO ⟨k,s⟩;dsimp only at f;have o:((2 ^ k*285870213051353865) % 18446744073709551616)>>>58=Nat.shiftRight ((2 ^ k*285870213051353865) % 18446744073709551616) 58:=rfl;rw[o]at f;generalize Nat.shiftRight ((2 ^ k*285870213051353865) % 18446744073709551616) 58=j at*;have r:j<64:=(List.getElem?_eq_some_iff.1 f).1;have w:bK (Cu.map λn=>Value.int .u8 (n:Nat)) (0+j*1)=some (.int .u8 (k:Nat)):=by
  rw[cH,hX,rt,rb,f];rfl
 have D:=bO (n:=(k:Int)) (by omega) (by omega);have q:h.get 0=some (.cells (Cu.map λn=> .int .u8 (n:Nat)) false 1):=l;refine Y14 ?_;refine aG (TZ (by exact rfl) (by assumption)) ?_;refine Y3 ?_;refine aG (sK (i:=j) (k:= .u64) (RU l) (by exact rfl) r) ?_;refine aG (bJ (by exact rfl) (by assumption) (by assumption)) ?_;refine aG (vO (by exact rfl) (by assumption)) ?_;refine Y3 ?_;exact au hr.log rfl rfl
def inR(n a b:Int):Bool:=decide (a<=n/\n<=b)
theorem Vn(d:aF T)(c:T 104=some f215)(hr:Rdy h)(n a b:Int):Pu T 104 [.int .i64 n, .int .i64 a, .int .i64 b] h (.bool (inR n a b)):=by
 refine .of d c hr rfl ?_;unfold inR;by_cases h1:a<=n
 ·by_cases h2:n<=b
  ·rw[decide_eq_true ⟨h1,h2⟩];refine Y18 ?_;exact au hr.log rfl rfl
  ·rw[decide_eq_false (λq=>h2 q.2)];refine Y18 ?_;exact au hr.log rfl rfl
 ·rw[decide_eq_false (λq=>h1 q.1)];refine Y15 ?_;exact au hr.log rfl rfl
theorem Ku(d:aF T)(c:T 30=some f106)(hr:Rdy h)(n a b:Int):Pu T 30 [.int .i64 n, .int .i64 a, .int .i64 b] h (.bool (inR n a b)):=by
 refine .of d c hr rfl ?_;unfold inR;by_cases h1:a<=n
 ·by_cases h2:n<=b
  ·rw[decide_eq_true ⟨h1,h2⟩];refine Y18 ?_;exact au hr.log rfl rfl
  ·rw[decide_eq_false (λq=>h2 q.2)];refine Y18 ?_;exact au hr.log rfl rfl
 ·rw[decide_eq_false (λq=>h1 q.1)];refine Y15 ?_;exact au hr.log rfl rfl
theorem F1(e:aF T)(d:T 52=some f90)(hr:Rdy h)(c:IsS a):Pu T 52 [sv a] h (.bool (decide (a=s0))):=by
 refine .of e d hr rfl ?_;have f:=cS c.len;have g:=bR c.len;refine Y5 ?_;refine aG (di (by exact rfl) YG (by assumption) (by assumption)) ?_;refine aG (qn (by exact rfl)) ?_;refine aG (oR (b:=s0) (by exact rfl) (by exact rfl) c.len rfl) ?_;refine Y3 ?_;exact au hr.log rfl rfl
structure Ce where
 x:Int
 y:Int
 z:Int
 deriving DecidableEq
def ceL(c:Ce):List Value:=[.int .i64 c.x, .int .i64 c.y, .int .i64 c.z]
def ceV(c:Ce):Value:= .agg (ceL c).toArray
def inG(c:Ce):Bool:=decide ((0<=c.x/\c.x<=7)/\(0<=c.y/\c.y<=7)/\0<=c.z/\c.z<=7)
theorem HC(a:aF T)(b:T 79=some f126)(d:T 104=some f215)(hr:Rdy h)(c:Ce):Pu T 79 [ceV c] h (.bool (inG c)):=by
 obtain⟨x,y,z⟩:=c;refine .of a b hr rfl ?_;have C:=λn=>Vn a d (.of (hr.wf.push (.cells (cellsOf (ceV ⟨x,y,z⟩)) true 1))) n 0 7;unfold inG ceV ceL at*;dsimp only at C⊢;refine Y8 ?_;refine FW.pu (C x) ?_;by_cases h1:0<=x/\x<=7
 ·rw[show inR x 0 7=true from decide_eq_true h1];refine Y7 ?_;refine FW.pu (C y) ?_;by_cases h2:0<=y/\y<=7
  ·rw[show inR y 0 7=true from decide_eq_true h2];refine Y8 ?_;refine FW.pu (C z) ?_;by_cases h3:0<=z/\z<=7
   ·rw[show inR z 0 7=true from decide_eq_true h3,decide_eq_true ⟨h1,h2,h3⟩];clear C;refine Y4 ?_;exact au hr.log rfl rfl
   ·rw[show inR z 0 7=false from decide_eq_false h3,decide_eq_false λq=>h3 q.2.2];clear C;refine Y4 ?_;exact au hr.log rfl rfl
  ·rw[show inR y 0 7=false from decide_eq_false h2,decide_eq_false λq=>h2 q.2.1];clear C;refine Y9 ?_;exact au hr.log rfl rfl
 ·rw[show inR x 0 7=false from decide_eq_false h1,decide_eq_false λq=>h1 q.1];clear C;refine Y13 ?_;exact au hr.log rfl rfl
theorem HB(b:aF T)(a:T 96=some f225)(hr:Rdy h)(c:Ce):Pu T 96 [ceV c] h (.bool (inG c)):=by
 obtain⟨x,y,z⟩:=c;refine .of b a hr rfl ?_;unfold inG ceV ceL;dsimp only;by_cases h0:0<=x
 ·skip;by_cases h1:x<=7
  ·skip;by_cases h2:0<=y
   ·skip;by_cases h3:y<=7
    ·skip;by_cases h4:0<=z
     ·skip;by_cases h5:z<=7
      ·rw[decide_eq_true ⟨⟨h0,h1⟩,⟨h2,h3⟩,h4,h5⟩];refine Y40 ?_;refine Y11 ?_;exact au hr.log rfl rfl
      ·rw[decide_eq_false λq=>h5 q.2.2.2];refine Y40 ?_;refine Y11 ?_;exact au hr.log rfl rfl
     ·rw[decide_eq_false λq=>h4 q.2.2.1];refine Y40 ?_;refine Y8 ?_;exact au hr.log rfl rfl
    ·rw[decide_eq_false λq=>h3 q.2.1.2];refine Y40 ?_;refine Y5 ?_;exact au hr.log rfl rfl
   ·rw[decide_eq_false λq=>h2 q.2.1.1];refine Y40 ?_;refine Y2 ?_;exact au hr.log rfl rfl
  ·rw[decide_eq_false λq=>h1 q.1.2];refine Y39 ?_;exact au hr.log rfl rfl
 ·rw[decide_eq_false λq=>h0 q.1.1];refine Y36 ?_;exact au hr.log rfl rfl
theorem K4{k:IntKind}(e:n<64):an .shl (.int .u64 1) (.int k (n:Nat))=some (.int .u64 ((2 ^ n:Nat):Int)):=by
 have a:((n:Nat):Int)=Int.ofNat n:=rfl;have b:(1:Int)=Int.ofNat 1:=rfl;rw[a,b];have:an .shl (.int .u64 (Int.ofNat 1)) (.int k (Int.ofNat n))=some (.int .u64 (.ofNat (Nat.mod (Nat.shiftLeft 1 (Nat.min n 64)) 18446744073709551616))):=rfl;rw[this,show Nat.min n 64=n from tp (by omega)];have c:Nat.shiftLeft 1 n=2 ^ n:=by
  have:=Nat.shiftLeft_eq 1 n;rw[A3]at this;exact this
 have d:2 ^ n<18446744073709551616:=(show 2 ^ n<2 ^ 64 from Nat.pow_lt_pow_right (by omega) e);rw[c,show Nat.mod (2 ^ n) 18446744073709551616=2 ^ n from Nat.mod_eq_of_lt d];rfl
theorem xz(a:n<64):2 ^ n<U64:=(show 2 ^ n<2 ^ 64 from Nat.pow_lt_pow_right (by omega) a)
theorem KI:Nat.land x (2 ^ n)=if Nat.testBit x n then 2 ^ n else 0:=by
 apply Nat.eq_of_testBit_eq;intro i;show Nat.testBit (x&&&2 ^ n) i=_;rw[Nat.testBit_and,Nat.testBit_two_pow];by_cases h:n=i
 ·subst h;cases hb:Nat.testBit x n<;>simp
 ·cases hb:Nat.testBit x n<;>simp[h]
def jG(z i:Nat):Ce:=⟨(i % 8:Nat),(i / 8:Nat),(z:Nat)⟩
theorem pL{c:Ce}(h:inG c=true):∃z i:Nat,z<8/\i<64/\c=jG z i:=by
 obtain⟨x,y,z⟩:=c;have h:=of_decide_eq_true h;dsimp only at h;refine⟨z.toNat,(8*y+x).toNat,by omega,by omega,?_⟩;unfold jG;rw[Ce.mk.injEq];refine⟨by omega,by omega,by omega⟩
variable{z:Nat}
theorem Kw(a:z<8)(hi:i<64):inG (jG z i)=true:=by
 apply decide_eq_true;unfold jG;dsimp only;omega
theorem RH(b:aF T)(a:T 80=some f127)(hr:Rdy h)(hi:i<64):Pu T 80 [ceV (jG z i)] h (.int .u64 ((2 ^ i:Nat):Int)):=by
 refine .of b a hr rfl ?_;have c:an .mul (.int .i64 8) (.int .i64 ((i / 8:Nat):Int))=some (.int .i64 (8*((i / 8:Nat):Int))):=K3 (by omega) (by omega);have d:an .add (.int .i64 (8*((i / 8:Nat):Int))) (.int .i64 ((i % 8:Nat):Int))=some (.int .i64 ((i:Nat):Int)):=jM (by rw[bO]<;>omega);have e:=K4 (k:= .i64) hi;unfold ceV ceL jG;dsimp only;refine Y15 ?_;exact au hr.log rfl rfl
def kA(s:List Nat)(c:Ce):Bool:=inG c&&Nat.testBit (s.getD c.z.toNat 0) (8*c.y.toNat+c.x.toNat)
theorem kL(a:z<8)(hi:i<64):kA s (jG z i)=Nat.testBit (s.getD z 0) i:=by
 unfold kA;rw[Kw a hi,rn];unfold jG;dsimp only;congr 1;omega
theorem lQ(hi:i<s.length):s[i]? =some (s.getD i 0):=by
 rw[kK,bx hi];rfl
theorem IsS.mO(a:IsS s)(i:Nat):s.getD i 0<U64:=by
 rw[kK];by_cases hi:i<s.length
 ·rw[bx hi];exact a.lt _ (sm hi)
 ·rw[re (by omega)];show 0<U64;decide
theorem OE:(decide (Nat.land x (2 ^ n)≠0))=Nat.testBit x n:=by
 rw[KI];cases hb:Nat.testBit x n
 ·simp
 ·have:0<2 ^ n:=xx (by omega);simp
end Go.A.Pk
end
section
namespace Go.A
variable {T:Nat->Option aq}
def HZ(g:Nat)(vs:List Value)(n:Nat):Heap:=⟨[(g, .cells vs false 1)],n,[]⟩
variable{g n:Nat}{vs:List Value}
theorem pU(x:Nat):(HZ g vs n).get x=if x=g then some (.cells vs false 1)else none:=by
 show fA [(g, .cells vs false 1)] x=_;simp only[fA,cond_eq_ite,beq_eq,decide_eq_true_eq];by_cases h:g=x
 ·rw[if_pos h,if_pos h.symm]
 ·rw[if_neg h,if_neg (Ne.symm h)]
variable{P:Program}
theorem R.HZ{μ:Mu}{h:Heap}{w:World}(q:R P μ h w)(s:h.get g=some (.cells vs false 1))(B:cZ vs=true)(z:P.globals.size<=n)(j:g<n):
 R P (λb=>if b=g then μ g else Option.none) (A.HZ g vs n) w:=by
 refine⟨z,λx o C p=> ?_,λb o d=> ?_,λb o d=> ?_,λb k d=> ?_,λb F o H k G r d f=> ?_⟩
 ·rw[pU]at p;split at p
  ·rename_i e;subst e;cases p;obtain⟨k,a,b,c,x⟩:=q.lR _ _ C s;exact⟨k,by rw[if_pos rfl];exact a,b,c,x⟩
  ·cases p
 ·rw[pU]at d;split at d
  ·rename_i e;subst e;cases d;intro k m;replace m:(if b=b then μ b else Option.none)=some k:=m;rw[if_pos rfl]at m;obtain⟨y,c,u,v,z1,z2,z3,z4,z5⟩:=q.obj _ _ s k m;refine⟨y,c,u,v,z1,z2,z3,λi t=> ?_,z5⟩;obtain⟨D,y1,E⟩:=z4 i t;have l:=BD B i t;exact⟨D,y1,by rw[(VR.mL l).2 _ E];exact(VR.mL l).1⟩
  ·cases d
 ·rw[pU]at d;split at d
  ·rename_i e;subst e;exact j
  ·cases d
 ·replace d:(if b=g then μ g else Option.none)=some k:=d;split at d
  ·rename_i e;subst e;exact⟨j,(q.dom _ _ d).2⟩
  ·cases d
 ·rw[pU]at d f;split at d
  ·rename_i e;split at f
   ·rename_i e';exact(r (e.trans e'.symm)).elim
   ·cases f
  ·cases d
theorem LR.EH{μ:Mu}:∀{args args':List Value},(∀a∈args,cE a=true)->LR μ args args'→args'=args
 |[],_,_,h=>by cases h;rfl
 |a::l,_,hn,h=>by
  cases h with
  |cons h1 h2=>rw[(VR.cE (hn a b6)).2 _ h1,LR.EH (λx hx=>hn x (bz _ hx)) h2]
theorem LR.xb{μ:Mu}:∀{args:List Value},(∀a∈args,cE a=true)->LR μ args args
 |[],_=> .nil
 |a::l,hn=> .cons (VR.cE (hn a b6)).1 (LR.xb λx hx=>hn x (bz _ hx))
variable{f:Nat}{fn:Func}{p:List Value→Heap→Option (Value×Heap)}
theorem Mi(G:ez P T)(I:P.funcs[f]? =some fn)(j:fn.name≠ "runtime.NumGoroutine")(hb:fn.body.isSome=true)(K:P.globals.size≤n)(y:g<n)(z:gw (T f)=false)(N:cZ vs=true)
 (H:∀c v h t,p c h=some (v,t)->t=h/\h.get g=some (.cells vs false 1)/\(∀a∈c,cE a=true)/\cE v=true/\CW T f c (HZ g vs n) λr _=>r= .ret v):Aq P f p:=by
 intro c h u t L _;obtain⟨rfl,J,D,F,r,S,⟨m,A⟩,rfl⟩:=H _ _ _ _ L;refine⟨.refl _ _,λμ w d x i=> ?_⟩;rw[i.EH D];have l:=A m (bl _);have:=mM G l rfl z (x.HZ J N K y) (args':=c) (.xb D);refine kJ I j hb this λe Q M=> ?_;obtain⟨μ',C,V,q⟩:=M;cases e with
 |returned v'=>
  have B:VR μ' u v':=C;rw[(VR.cE F).2 _ B];have E:∀r,r<w.heap.size->Q.heap[r]? =w.heap[r]? :=λr A=>q.keep r A λ⟨b,o,k,s,U,O,_⟩=>by
   rw[pU]at s;split at s
   ·cases s;cases O
   ·cases s
  exact⟨μ,(VR.cE F).1,(x.grow q.le E q.same).1,(x.grow q.le E q.same).2⟩
 |panicked _=>exact C.elim
 |outgrown=>exact C.elim
theorem Mh(D:ez P T)(E:P.funcs[f]? =some fn)(i:fn.name≠ "runtime.NumGoroutine")(hb:fn.body.isSome=true)(F:P.globals.size≤n)(s:gw (T f)=false)
 (H:∀c v h q,p c h=some (v,q)->q=h/\(∀a∈c,cE a=true)/\cE v=true/\CW T f c ⟨[],n,[]⟩ λr _=>r= .ret v):Aq P f p:=by
 intro c h u q G _;obtain⟨rfl,A,C,r,L,⟨m,t⟩,rfl⟩:=H _ _ _ _ G;refine⟨.refl _ _,λμ w d z g=> ?_⟩;rw[g.EH A];have j:=t m (bl _);have:=mM D j rfl s (R.none (P:=P) (w:=w) F) (args':=c) (.xb A);refine kJ E i hb this λe K I=> ?_;obtain⟨μ',y,M,l⟩:=I;cases e with
 |returned v'=>
  have x:VR μ' u v':=y;rw[(VR.cE C).2 _ x];have B:∀r,r<w.heap.size->K.heap[r]? =w.heap[r]? :=λr t=>l.keep r t λ⟨b,o,k,J,_⟩=>by cases J
  exact⟨μ,(VR.cE C).1,(z.grow l.le B l.same).1,(z.grow l.le B l.same).2⟩
 |panicked _=>exact y.elim
 |outgrown=>exact y.elim
end Go.A
end
section
namespace Go.A.Pk
variable {T:Nat->Option aq}
def oI:List Value->Option (List Nat)
 |[]=>some []
 | .int .u64 (.ofNat n)::l=>bif Nat.blt n 18446744073709551616 then match oI l with
  |some m=>some (n::m)
  |none=>none
   else none
 |_=>none
def PZ(v:Value):Option (List Nat):=
 match v with
 | .agg c=>match oI c.toList with
   |some l=>bif Nat.beq (cF l) 8 then some l else none
   |none=>none
 |_=>none
theorem sd:∀{l:List Value} {m:List Nat},oI l=some m->l=us m/\∀x∈m,x<U64
 |[],m,h=>by cases h;exact⟨rfl,λ_ h=>by simp at h⟩
 |v::l,m,h=>by
  unfold oI at h;split at h
  ·rename_i heq;cases heq
  ·rename_i n l' heq;cases heq;simp only[cond_eq_ite,blt_eq,dk,decide_eq_true_eq]at h;obtain⟨hn,h⟩:=h;split at h
   ·rename_i m' hm;cases h;obtain⟨e,b⟩:=sd hm;refine⟨by rw[e];rfl,λx a=> ?_⟩;rcases List.mem_cons.1 a with rfl|a
    ·exact hn
    ·exact b x a
   ·cases h
  ·cases h
theorem GC{v:Value}{s:List Nat}(h:PZ v=some s):v=sv s/\IsS s:=by
 unfold PZ at h;split at h
 ·rename_i c;split at h
  ·rename_i l hl;simp only[cond_eq_ite,beq_eq,bX,dk,decide_eq_true_eq]at h;obtain⟨b,h⟩:=h;cases h;obtain⟨e,a⟩:=sd hl;refine⟨?_,b,a⟩;show Value.agg c= .agg (us s).toArray;rw[←e]
  ·cases h
 ·cases h
theorem xy:∀{s:List Nat},(∀x∈s,x<U64)->oI (us s)=some s
 |[],_=>rfl
 |x::s,h=>by
  have e:us (x::s)= .int .u64 (.ofNat x)::us s:=rfl;rw[e];unfold oI;simp only[gM (h x b6),cond_true,xy λy a=>h y (bz _ a)]
def inB:List Nat->List Nat->Bool
 |[],[]=>true
 |x::xs,y::ys=>bif Nat.beq (Nat.land x y) x then inB xs ys else false
 |_,_=>false
theorem Kv:∀{a b:List Nat},a.length=b.length->inB a b=sIn a b
 |[],[],_=>rfl
 |x::xs,y::ys,h=>by
  have ih:=Kv (a:=xs) (b:=ys) (by simpa using h);simp only[inB,ih,cond_eq_ite,beq_eq,decide_eq_true_eq];unfold sIn xY xX;simp only[List.zipWith_cons_cons,List.cons.injEq];by_cases hx:Nat.land x y=x
  ·simp[hx]
  ·simp[hx]
 |[],_::_,h=>by simp at h
 |_::_,[],h=>by simp at h
def pIn:List Value->Heap->Option (Value×Heap)
 |[a,b],h=>match PZ a,PZ b with
  |some x,some y=>some (.bool (inB x y),h)
  |_,_=>none
 |_,_=>none
theorem Po(l:aF T)(j:T 46=some f35)(k:T 76=some f121){n:Nat}:∀c v h e,pIn c h=some (v,e)->e=h/\(∀a∈c,cE a=true)/\cE v=true/\CW T 46 c ⟨[],n,[]⟩ λr _=>r= .ret v:=by
 intro c v h e d;unfold pIn at d;split at d
 ·rename_i a b;split at d
  ·rename_i x y hx hy;cases d;obtain⟨rfl,g⟩:=GC hx;obtain⟨rfl,i⟩:=GC hy;refine⟨rfl,λz f=> ?_,rfl,?_⟩
   ·simp only[ui,xr,or_false]at f;rcases f with rfl|rfl<;>exact jS _
   ·rw[Kv (g.len.trans i.len.symm)];refine CW.mono (Ex l j k (h:=⟨[],n,[]⟩) ⟨⟨by simp,by simp⟩,rfl⟩ g i) λr h d=>d.1
  ·cases d
 ·cases d
end Go.A.Pk
end
