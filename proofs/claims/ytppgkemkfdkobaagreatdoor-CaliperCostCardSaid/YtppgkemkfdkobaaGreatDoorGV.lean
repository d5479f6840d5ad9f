/- Solids. -/
import Derived.Test.YtppgkemkfdkobaaGreatDoorGF
import Derived.Test.YtppgkemkfdkobaaGreatDoorGD
set_option linter.all false
set_option maxRecDepth 100000
section
namespace Go.A.Pk
variable {T:Nat->Option aq}
abbrev U64:Nat:=18446744073709551616
def us(pl:List Nat):List Value:=pl.map λn=> .int .u64 (n:Nat)
def sv(pl:List Nat):Value:= .agg (us pl).toArray
structure IsS (s:List Nat):Prop where
 len:s.length=8
 lt:∀x∈s,x<U64
def aF(l:List Nat):(us l).length=l.length:=by simp[us]
def rq:∀l:List Nat,dQ (us l)=true
 |[]=>rfl
 |x::l=>by
  show dQ (.int .u64 (x:Nat)::us l)=true;simp only[dQ,oV,mI,cond_true];exact rq l
def iQ(s:List Nat):dA (sv s)=true:=by
 show flat (.agg (us s).toArray)=true;simp only[flat];exact rq s
def bZ:∀l:List Nat,eN (us l)=true
 |[]=>rfl
 |x::l=>by
  show eN (.int .u64 (x:Nat)::us l)=true;simp only[eN];exact bZ l
variable{i n:Nat}
def jm{pl:List Nat}(hi:pl[i]? =some n):bN (us pl) (0+i*1)=some (.int .u64 (n:Nat)):=by
 rw[cC,xr,hF,us,wt,hi];rfl
variable{s:List Nat}
def aU(h:s.length=8):cm 8 (bQ 0 (us s))=us s:=by
 rw[bw,aT,ww,go (by rw[aF];omega)]
def aN(h:s.length=8):Nat.beq (bS (us s)) 8=true:=by
 rw[cK,aF,h];rfl
variable{l:List Nat}
def vI:us (l.set i n)=(us l).set (0+i*1) (.int .u64 (n:Nat)):=by
 rw[hF,xr,us,us,WP]
def tU(f:Nat->Nat->Nat)(a b:List Nat):List Nat:=List.zipWith f a b
abbrev vU(x y:Nat):Nat:=Nat.xor x (Nat.land x y)
variable{x y:Nat}
def CO(a:x<U64):Nat.land x y<U64:=xj (Nat.and_le_left (n:=x) (m:=y)) a
def NM(a:x<U64)(b:y<U64):Nat.lor x y<U64:=Nat.or_lt_two_pow (n:=64) a b
def Q8(a:x<U64):vU x y<U64:=Nat.xor_lt_two_pow (n:=64) a (CO a)
def Fs{a b:Nat}(f:a<U64)(hb:b<U64):af .andNot (.int .u64 a) (.int .u64 b)=some (.int .u64 ((vU a b:Nat):Int)):=by
 have c:((a:Nat):Int)=Int.ofNat a:=rfl;have d:((b:Nat):Int)=Int.ofNat b:=rfl;have e:(Nat.blt a 18446744073709551616&&Nat.blt b 18446744073709551616)=true:=by
  simp only[blt_eq,gk,decide_eq_true_eq];exact⟨f,hb⟩
 rw[c,d];simp only[af,arith,qk,e,cond_true,if_true];rfl
def tS(f:Nat->Nat->Nat)(a b:List Nat)(i:Nat):List Nat:=List.zipWith f (a.take i) (b.take i)++a.drop i
def pS(f:Nat->Nat->Nat)(a b:List Nat):tS f a b 0=a:=by simp[tS]
variable{f:Nat->Nat->Nat}{a b:List Nat}
def sA(c:a.length=8)(hb:b.length=8):tS f a b 8=tU f a b:=by
 rw[tS,go ω,go ω,List.drop_eq_nil_of_le ω,wl,tU]
def sB(c:a.length=8)(hb:b.length=8)(hi:i<=8):(tS f a b i).length=8:=by
 simp[tS,c,hb];omega
def vq(c:a.length=8)(hb:b.length=8)(hi:a[i]? =some x):(tS f a b i)[i]? =some x:=by
 have d:i<8:=by rw[←c];exact(List.getElem?_eq_some_iff.1 hi).1
 rw[tS,hX (by simp[c,hb];omega)];simp[c,hb,FX (Nat.le_of_lt d),hi]
def sC(l:a.length=8)(hb:b.length=8)(d:a[i]? =some x)(e:b[i]? =some y):(tS f a b i).set i (f x y)=tS f a b (i+1):=by
 have g:i<a.length:=(List.getElem?_eq_some_iff.1 d).1;have h:i<b.length:=(List.getElem?_eq_some_iff.1 e).1;apply wy;intro j;have k:(List.zipWith f (a.take i) (b.take i)).length=i:=by simp;omega
 have c:(List.zipWith f (a.take (i+1)) (b.take (i+1))).length=i+1:=by simp;omega
 rw[If];unfold tS;by_cases h1:i=j
 ·subst h1;rw[if_pos rfl,if_pos (by simp;omega)];rw[oB ω,PQ,wi ω,wi ω,d,e]
 ·rw[if_neg h1];by_cases h2:j<i
  ·rw[oB ω,oB ω,PQ,PQ];simp only[wi h2,wi (show j<i+1 by omega)]
  ·rw[hX ω,hX ω,k,c,wn,wn];congr 1;omega
def IsS.map(c:IsS a)(hb:IsS b)(d:∀x y,x<U64->y<U64->f x y<U64):IsS (tU f a b):=by
 refine⟨by simp[tU,c.len,hb.len],λz e=> ?_⟩;obtain⟨i,g,rfl⟩:=List.mem_iff_getElem.1 e;simp only[tU,List.getElem_zipWith];exact d _ _ (c.lt _ (CS _)) (hb.lt _ (CS _))
def gZ(a b:List Nat):List Nat:=tU Nat.lor a b
def sU(a b:List Nat):List Nat:=tU Nat.land a b
def eX(a b:List Nat):List Nat:=tU vU a b
def IsS.join(e:IsS a)(hb:IsS b):IsS (gZ a b):=e.map hb λ_ _ c d=>NM c d
def IsS.meet(d:IsS a)(hb:IsS b):IsS (sU a b):=d.map hb λ_ _ c _=>CO c
def IsS.less(d:IsS a)(hb:IsS b):IsS (eX a b):=d.map hb λ_ _ c _=>Q8 c
variable{h:Heap}
def IY(u:aK T)(r:T 93=some f174)(hr:Rdy h)(c:IsS a)(hb:IsS b):Pu T 93 [sv a,sv b] h (sv (gZ a b)):=by
 refine .of u r hr (iQ _) ?_;refine Y10 ?_;refine aY (λm e l d=>∃i:Nat,i<=8/\m=8-i/\e=[(2, sb h.next),(3, sb (h.next+1)),(4, sb (h.next+2)),(6, zc (i:Nat))]/\l=[]/\d.log=[]/\d.next=h.next+3∧
  d.get h.next=some (qt (us (tS Nat.lor a b i)))/\d.get (h.next+1)=some (qt (us b))/\d.get (h.next+2)=some (qt (aL 8 (.int .u64 0))))
  ⟨0,ω,rfl,rfl,rfl,hr.log,rfl,?_,?_,?_⟩ ?_
 ·rw[pS];(simp(disch:=first|omega|(simp only[z1,z2];omega))only[z3,z4,z5,z6,z7,z1,z2];exact rfl)
 ·exact YG
 ·exact YG
 rintro m e l B ⟨i,g,rfl,rfl,rfl,o,t,n,p,q⟩;by_cases hlt:i<8
 ·obtain⟨x,j⟩:∃x,a[i]? =some x:=⟨a[i]'(by rw[c.len];exact hlt),bx _⟩;obtain⟨y,k⟩:∃x,b[i]? =some x:=⟨b[i]'(by rw[hb.len];exact hlt),bx _⟩;have z:=jm (vq (f:=Nat.lor) c.len hb.len j);have A:=jm k;have E:=R7 (c.lt _ (ci j)) (hb.lt _ (ci k));have D:=sB (f:=Nat.lor) c.len hb.len g;refine Y22 ?_;refine iU rfl rfl rfl ρ ρ ρ τ ρ ρ (by(simp only[aF];omega)) ω ω (by(repeat apply aB rfl);exact aQ) ?_;refine pn ?_;refine Y7 ?_;refine⟨8-(i+1),ω,i+1,ω,rfl,rfl,rfl,?_,?_,?_,?_,?_⟩
  ·rw[Heap.aA (bl _)];exact o
  ·exact t
  ·rw[z6,n,z7];rw[←sC c.len hb.len j k,vI]
  ·rw[z5 ω];exact p
  ·rw[z5 ω];exact q
 ·obtain rfl:i=8:=ω
  rw[sA c.len hb.len]at n;have v:=aU (c.join hb).len;have w:=aN (c.join hb).len;have C:=(c.join hb).len;refine Y10 ?_;refine y4 ?_;refine yV ?_;refine aG (bH ρ ρ τ (by(simp only[aF];assumption)) ρ (by exact bZ _)) ?_;refine y3 ?_;refine pq ?_;refine an ?_ (bV (own:=true) (s:=1) rfl ?_ v w rfl) rfl
  ·rw[Heap.aA ω];exact o
  ·exact YG
def Sc(u:aK T)(r:T 94=some f121)(hr:Rdy h)(c:IsS a)(hb:IsS b):Pu T 94 [sv a,sv b] h (sv (sU a b)):=by
 refine .of u r hr (iQ _) ?_;refine Y10 ?_;refine aY (λm e l d=>∃i:Nat,i<=8/\m=8-i/\e=[(2, sb h.next),(3, sb (h.next+1)),(4, sb (h.next+2)),(6, zc (i:Nat))]/\l=[]/\d.log=[]/\d.next=h.next+3∧
  d.get h.next=some (qt (us (tS Nat.land a b i)))/\d.get (h.next+1)=some (qt (us b))/\d.get (h.next+2)=some (qt (aL 8 (.int .u64 0))))
  ⟨0,ω,rfl,rfl,rfl,hr.log,rfl,?_,?_,?_⟩ ?_
 ·rw[pS];(simp(disch:=first|omega|(simp only[z1,z2];omega))only[z3,z4,z5,z6,z7,z1,z2];exact rfl)
 ·exact YG
 ·exact YG
 rintro m e l B ⟨i,g,rfl,rfl,rfl,o,t,n,p,q⟩;by_cases hlt:i<8
 ·obtain⟨x,j⟩:∃x,a[i]? =some x:=⟨a[i]'(by rw[c.len];exact hlt),bx _⟩;obtain⟨y,k⟩:∃x,b[i]? =some x:=⟨b[i]'(by rw[hb.len];exact hlt),bx _⟩;have z:=jm (vq (f:=Nat.land) c.len hb.len j);have A:=jm k;have E:=vo (c.lt _ (ci j)) (hb.lt _ (ci k));have D:=sB (f:=Nat.land) c.len hb.len g;refine Y22 ?_;refine iU rfl rfl rfl ρ ρ ρ τ ρ ρ (by(simp only[aF];omega)) ω ω (by(repeat apply aB rfl);exact aQ) ?_;refine pn ?_;refine Y7 ?_;refine⟨8-(i+1),ω,i+1,ω,rfl,rfl,rfl,?_,?_,?_,?_,?_⟩
  ·rw[Heap.aA (bl _)];exact o
  ·exact t
  ·rw[z6,n,z7];rw[←sC c.len hb.len j k,vI]
  ·rw[z5 ω];exact p
  ·rw[z5 ω];exact q
 ·obtain rfl:i=8:=ω
  rw[sA c.len hb.len]at n;have v:=aU (c.meet hb).len;have w:=aN (c.meet hb).len;have C:=(c.meet hb).len;refine Y10 ?_;refine y4 ?_;refine yV ?_;refine aG (bH ρ ρ τ (by(simp only[aF];assumption)) ρ (by exact bZ _)) ?_;refine y3 ?_;refine pq ?_;refine an ?_ (bV (own:=true) (s:=1) rfl ?_ v w rfl) rfl
  ·rw[Heap.aA ω];exact o
  ·exact YG
def RX(u:aK T)(r:T 55=some f124)(hr:Rdy h)(c:IsS a)(hb:IsS b):Pu T 55 [sv a,sv b] h (sv (eX a b)):=by
 refine .of u r hr (iQ _) ?_;refine Y10 ?_;refine aY (λm e l d=>∃i:Nat,i<=8/\m=8-i/\e=[(2, sb h.next),(3, sb (h.next+1)),(4, sb (h.next+2)),(6, zc (i:Nat))]/\l=[]/\d.log=[]/\d.next=h.next+3∧
  d.get h.next=some (qt (us (tS vU a b i)))/\d.get (h.next+1)=some (qt (us b))/\d.get (h.next+2)=some (qt (aL 8 (.int .u64 0))))
  ⟨0,ω,rfl,rfl,rfl,hr.log,rfl,?_,?_,?_⟩ ?_
 ·rw[pS];(simp(disch:=first|omega|(simp only[z1,z2];omega))only[z3,z4,z5,z6,z7,z1,z2];exact rfl)
 ·exact YG
 ·exact YG
 rintro m e l B ⟨i,g,rfl,rfl,rfl,o,t,n,p,q⟩;by_cases hlt:i<8
 ·obtain⟨x,j⟩:∃x,a[i]? =some x:=⟨a[i]'(by rw[c.len];exact hlt),bx _⟩;obtain⟨y,k⟩:∃x,b[i]? =some x:=⟨b[i]'(by rw[hb.len];exact hlt),bx _⟩;have z:=jm (vq (f:=vU) c.len hb.len j);have A:=jm k;have E:=Fs (c.lt _ (ci j)) (hb.lt _ (ci k));have D:=sB (f:=vU) c.len hb.len g;refine Y22 ?_;refine iU rfl rfl rfl ρ ρ ρ τ ρ ρ (by(simp only[aF];omega)) ω ω (by(repeat apply aB rfl);exact aQ) ?_;refine pn ?_;refine Y7 ?_;refine⟨8-(i+1),ω,i+1,ω,rfl,rfl,rfl,?_,?_,?_,?_,?_⟩
  ·rw[Heap.aA (bl _)];exact o
  ·exact t
  ·rw[z6,n,z7];rw[←sC c.len hb.len j k,vI]
  ·rw[z5 ω];exact p
  ·rw[z5 ω];exact q
 ·obtain rfl:i=8:=ω
  rw[sA c.len hb.len]at n;have v:=aU (c.less hb).len;have w:=aN (c.less hb).len;have C:=(c.less hb).len;refine Y10 ?_;refine y4 ?_;refine yV ?_;refine aG (bH ρ ρ τ (by(simp only[aF];assumption)) ρ (by exact bZ _)) ?_;refine y3 ?_;refine pq ?_;refine an ?_ (bV (own:=true) (s:=1) rfl ?_ v w rfl) rfl
  ·rw[Heap.aA ω];exact o
  ·exact YG
def F4(u:aK T)(r:T 83=some f118)(hr:Rdy h)(c:IsS a)(hb:IsS b):Pu T 83 [sv a,sv b] h (sv (gZ a b)):=by
 refine .of u r hr (iQ _) ?_;refine Y10 ?_;refine aY (λm e l d=>∃i:Nat,i<=8/\m=8-i/\e=[(2, sb h.next),(3, sb (h.next+1)),(4, sb (h.next+2)),(5, zc (i:Nat))]/\l=[]/\d.log=[]/\d.next=h.next+3∧
  d.get h.next=some (qt (us (tS Nat.lor a b i)))/\d.get (h.next+1)=some (qt (us b))/\d.get (h.next+2)=some (qt (aL 8 (.int .u64 0))))
  ⟨0,ω,rfl,rfl,rfl,hr.log,rfl,?_,?_,?_⟩ ?_
 ·rw[pS];(simp(disch:=first|omega|(simp only[z1,z2];omega))only[z3,z4,z5,z6,z7,z1,z2];exact rfl)
 ·exact YG
 ·exact YG
 rintro m e l B ⟨i,g,rfl,rfl,rfl,o,t,n,p,q⟩;by_cases hlt:i<8
 ·obtain⟨x,j⟩:∃x,a[i]? =some x:=⟨a[i]'(by rw[c.len];exact hlt),bx _⟩;obtain⟨y,k⟩:∃x,b[i]? =some x:=⟨b[i]'(by rw[hb.len];exact hlt),bx _⟩;have z:=jm (vq (f:=Nat.lor) c.len hb.len j);have A:=jm k;have E:=R7 (c.lt _ (ci j)) (hb.lt _ (ci k));have D:=sB (f:=Nat.lor) c.len hb.len g;refine Y20 ?_;refine iU rfl rfl rfl ρ ρ ρ τ ρ ρ (by(simp only[aF];omega)) ω ω (by(repeat apply aB rfl);exact aQ) ?_;refine pn ?_;refine Y8 ?_;refine⟨8-(i+1),ω,i+1,ω,rfl,rfl,rfl,?_,?_,?_,?_,?_⟩
  ·rw[Heap.aA (bl _)];exact o
  ·exact t
  ·rw[z6,n,z7];rw[←sC c.len hb.len j k,vI]
  ·rw[z5 ω];exact p
  ·rw[z5 ω];exact q
 ·obtain rfl:i=8:=ω
  rw[sA c.len hb.len]at n;have v:=aU (c.join hb).len;have w:=aN (c.join hb).len;have C:=(c.join hb).len;refine Y8 ?_;refine GZ ?_;refine Ns ?_;refine wj ?_;refine y4 ?_;refine yV ?_;refine aG (bH ρ ρ τ (by(simp only[aF];assumption)) ρ (by exact bZ _)) ?_;refine y3 ?_;refine pq ?_;refine an ?_ (bV (own:=true) (s:=1) rfl ?_ v w rfl) rfl
  ·rw[Heap.aA ω];exact o
  ·exact YG
def Aw(u:aK T)(r:T 119=some f140)(hr:Rdy h)(c:IsS a)(hb:IsS b):Pu T 119 [sv a,sv b] h (sv (eX a b)):=by
 refine .of u r hr (iQ _) ?_;refine Y10 ?_;refine aY (λm e l d=>∃i:Nat,i<=8/\m=8-i/\e=[(2, sb h.next),(3, sb (h.next+1)),(4, sb (h.next+2)),(5, zc (i:Nat))]/\l=[]/\d.log=[]/\d.next=h.next+3∧
  d.get h.next=some (qt (us (tS vU a b i)))/\d.get (h.next+1)=some (qt (us b))/\d.get (h.next+2)=some (qt (aL 8 (.int .u64 0))))
  ⟨0,ω,rfl,rfl,rfl,hr.log,rfl,?_,?_,?_⟩ ?_
 ·rw[pS];(simp(disch:=first|omega|(simp only[z1,z2];omega))only[z3,z4,z5,z6,z7,z1,z2];exact rfl)
 ·exact YG
 ·exact YG
 rintro m e l B ⟨i,g,rfl,rfl,rfl,o,t,n,p,q⟩;by_cases hlt:i<8
 ·obtain⟨x,j⟩:∃x,a[i]? =some x:=⟨a[i]'(by rw[c.len];exact hlt),bx _⟩;obtain⟨y,k⟩:∃x,b[i]? =some x:=⟨b[i]'(by rw[hb.len];exact hlt),bx _⟩;have z:=jm (vq (f:=vU) c.len hb.len j);have A:=jm k;have E:=Fs (c.lt _ (ci j)) (hb.lt _ (ci k));have D:=sB (f:=vU) c.len hb.len g;refine Y20 ?_;refine iU rfl rfl rfl ρ ρ ρ τ ρ ρ (by(simp only[aF];omega)) ω ω (by(repeat apply aB rfl);exact aQ) ?_;refine pn ?_;refine Y8 ?_;refine⟨8-(i+1),ω,i+1,ω,rfl,rfl,rfl,?_,?_,?_,?_,?_⟩
  ·rw[Heap.aA (bl _)];exact o
  ·exact t
  ·rw[z6,n,z7];rw[←sC c.len hb.len j k,vI]
  ·rw[z5 ω];exact p
  ·rw[z5 ω];exact q
 ·obtain rfl:i=8:=ω
  rw[sA c.len hb.len]at n;have v:=aU (c.less hb).len;have w:=aN (c.less hb).len;have C:=(c.less hb).len;refine Y8 ?_;refine GZ ?_;refine Ns ?_;refine wj ?_;refine y4 ?_;refine yV ?_;refine aG (bH ρ ρ τ (by(simp only[aF];assumption)) ρ (by exact bZ _)) ?_;refine y3 ?_;refine pq ?_;refine an ?_ (bV (own:=true) (s:=1) rfl ?_ v w rfl) rfl
  ·rw[Heap.aA ω];exact o
  ·exact YG
def Ca:∀(a b:List Nat),a.length=b.length->bU (aL a.length (.i .u64)) (us a) (us b)=some (decide (a=b))
 |[],[],_=>rfl
 |x::a,y::b,h=>by
  have hl:a.length=b.length:=by simpa using h
  have c:=Ca a b hl;show bU (aL (a.length+1) (.i .u64)) (.int .u64 (x:Nat)::us a) (.int .u64 (y:Nat)::us b)=_;simp only[aL,bU,jG,if_true];by_cases hxy:x=y
  ·subst hxy;simp only[beq_self_eq_true,c,List.cons.injEq,true_and]
  ·have:((x:Int)==(y:Int))=false:=by simp;omega
   simp only[this,c];rw[decide_eq_false];intro q;injection q with q _;exact hxy q
 |[],_::_,h=>by simp at h
 |_::_,[],h=>by simp at h
def Lc(c:a.length=8)(hb:b.length=8):bU (aL 8 (.i .u64)) (us a).toArray.toList (us b).toArray.toList=some (decide (a=b)):=by
 have:=Ca a b ω;rw[c]at this;simpa using this
def sZ(pl:List Nat):jj (.agg (us pl).toArray) (.agg (us pl).toArray)=true:=by
 refine mP ?_;rw[Pi];induction pl with
 |nil=>rfl
 |cons p pl ih=>exact cD (eT _ _) ih
def s0:List Nat:=[0,0,0,0,0,0,0,0]
def BP:IsS s0:=⟨rfl,λx a=>by simp[s0]at a;subst a;decide⟩
variable{e:Env}
def jK{base:Nat}{x y:Operand}{c:Bool}(f:ev h e x=some (sv a))(g:ev h e y=some (sv b))(d:a.length=8)(hb:b.length=8):
 aop h base e (.bin (.agg c (aL 8 (.i .u64))) x y)=some (.val (.bool (bif c then !decide (a=b)else decide (a=b))) h):=Xu f g (Lc d hb)
def sIn(a b:List Nat):Bool:=decide (sU a b=a)
def GW(d:aK T)(e:T 53=some f35)(f:T 94=some f121)(hr:Rdy h)(c:IsS a)(hb:IsS b):Pu T 53 [sv a,sv b] h (.bool (sIn a b)):=by
 refine .of d e hr rfl ?_;have g:=aU c.len;have i:=aN c.len;have j:=aU hb.len;have k:=aN hb.len;refine Y7 ?_;refine qZ9 (c:=bW ρ YG τ τ) (H:=?_);refine qZ9 (c:=bW ρ YG τ τ) (H:=?_);refine qZ9 (c:=bW ρ YG τ τ) (H:=?_);refine qC ?_;refine FW.puD (Sc d f (.of ((((hr.wf.push _).push _)))) c hb) (by apply au rfl (ah rfl (bW ρ YG τ τ) (by exact sZ _)) rfl;(repeat apply aB rfl);exact aQ) ?_;skip;refine qZ9 (c:=jK ρ ρ (c.meet hb).len c.len) (H:=?_);refine Y5 ?_;exact an hr.log rfl rfl
def Bz:vU x y=0↔Nat.land x y=x:=by
 constructor
 ·intro h;apply ab4;intro i;have:=congrArg (λz=>Nat.testBit z i) h;simp only[vU]at this;have e:Nat.testBit (x ^^^ (x&&&y)) i=false:=by rw[show x ^^^ (x&&&y)=0 from h];simp
  rw[Nat.testBit_xor,QP]at e;show Nat.testBit (x&&&y) i=_;rw[QP];cases h1:Nat.testBit x i<;>cases h2:Nat.testBit y i<;>rw[h1,h2]at e<;>first|rfl|cases e
 ·intro h;show x ^^^ (Nat.land x y)=0;rw[h];simp
def PF(m:a.length=8)(hb:b.length=8):(eX a b=s0)↔sU a b=a:=by
 have l:∀i,i<8->(eX a b)[i]? =some (vU (a.getD i 0) (b.getD i 0))/\(sU a b)[i]? =some (Nat.land (a.getD i 0) (b.getD i 0))/\a[i]? =some (a.getD i 0)/\s0[i]? =some 0:=λi c=>by
  have f:a[i]? =some (a.getD i 0):=by rw[dn,bx ω];rfl
  have k:b[i]? =some (b.getD i 0):=by rw[dn,bx ω];rfl
  refine⟨?_,?_,f,?_⟩
  ·rw[eX,tU,PQ,f,k]
  ·rw[sU,tU,PQ,f,k]
  ·have:i=0∨i=1∨i=2∨i=3∨i=4∨i=5∨i=6∨i=7:=ω
   rcases this with rfl|rfl|rfl|rfl|rfl|rfl|rfl|rfl<;>rfl
 constructor
 ·intro h;apply wy;intro i;by_cases c:i<8
  ·obtain⟨d,e,g,j⟩:=l i c;rw[h,j]at d;rw[e,g,Option.some.injEq];exact Bz.1 (Option.some.inj d).symm
  ·rw[kz (by rw[sU,tU,List.length_zipWith];omega),kz ω]
 ·intro h;apply wy;intro i;by_cases c:i<8
  ·obtain⟨d,e,g,j⟩:=l i c;rw[h,g]at e;rw[d,j,Option.some.injEq];exact Bz.2 (Option.some.inj e).symm
  ·rw[kz (by rw[eX,tU,List.length_zipWith];omega),kz (by show 8<=i;omega)]
def Av(d:aK T)(f:T 85=some f52)(g:T 119=some f140)(hr:Rdy h)(c:IsS a)(hb:IsS b):Pu T 85 [sv a,sv b] h (.bool (sIn a b)):=by
 have e:sIn a b=decide (eX a b=s0):=by unfold sIn;exact decide_eq_decide.2 (PF c.len hb.len).symm
 rw[e];refine .of d f hr rfl ?_;have i:=aU c.len;have j:=aN c.len;have k:=aU hb.len;have l:=aN hb.len;refine Y6 ?_;refine aG (bW ρ YG τ τ) ?_;refine aG (bW ρ YG τ τ) ?_;refine yC ?_;refine FW.pu (Aw d g (.of ((((hr.wf.push _).push _)))) c hb) ?_;refine aG (mS ρ) ?_;refine aG (jK (b:=s0) ρ ρ (c.less hb).len rfl) ?_;refine Y3 ?_;exact an hr.log rfl rfl
def bitsOf(x:Nat):List Nat:=(List.range 64).filter (Nat.testBit x)
def FC:∀x:Nat,x≠0->∃k m,x=2 ^ k*(2*m+1)
 |x,hx=>by
  by_cases h:x % 2=1
  ·exact⟨0,x / 2,ω⟩
  ·obtain⟨k,m,e⟩:=FC (x / 2) ω;exact⟨k+1,m,by rw[Hc,Nat.mul_comm (2 ^ k) 2,Nat.mul_assoc,←e];omega⟩
 termination_by x=>x
variable{k m:Nat}
def pQ(h:x=2 ^ k*(2*m+1))(i:Nat):Nat.testBit x i=(if i<k then false else if i=k then true else Nat.testBit m (i-k-1)):=by
 rw[h,Nat.testBit_two_pow_mul];by_cases h1:i<k
 ·simp[h1,show¬k<=i by omega]
 ·rw[if_neg h1];simp only[ge_iff_le,show k<=i by omega,decide_true,yi];by_cases h2:i=k
  ·subst h2;simp
  ·rw[if_neg h2,show i-k=(i-k-1)+1 by omega,Nat.testBit_succ];congr 1;omega
def CR(h:x=2 ^ k*(2*m+1))(g:x<2 ^ 64):k<64/\Nat.land x (2 ^ 64-x)=2 ^ k:=by
 have e:k<64:=by
  apply Nat.lt_of_not_le;intro e;have b:2 ^ 64<=2 ^ k:=xl ω e;have c:2 ^ k*1<=2 ^ k*(2*m+1):=Ok _ ω;omega
 refine⟨e,?_⟩;obtain⟨d,j⟩:∃d,64=k+1+d:=⟨63-k,ω⟩;have f:2 ^ 64=2 ^ k*(2*2 ^ d):=by rw[j,Nat.pow_add,Hc,Nat.mul_assoc]
 have l:2*m+1<2*2 ^ d:=by
  rw[h,f]at g;exact Nat.lt_of_mul_lt_mul_left g
 have a:2 ^ 64-x=2 ^ k*(2*(2 ^ d-(m+1))+1):=by
  rw[h,f,←Nat.mul_sub];congr 1;omega
 rw[a,h];apply ab4;intro i;show Nat.testBit (_&&&_) i=_;rw[QP,pQ rfl,pQ rfl,Nat.testBit_two_pow];by_cases b:i<k
 ·simp[b,show¬k=i by omega]
 ·by_cases c:i=k
  ·subst c;simp
  ·simp only[b,c,if_false,show¬k=i by omega,decide_false];rw[Nat.testBit_two_pow_sub_succ ω];cases Nat.testBit m (i-k-1)<;>simp
def NN(h:x=2 ^ k*(2*m+1))(i:Nat):Nat.testBit (Nat.land x (x-1)) i=(Nat.testBit x i&&decide (i≠k)):=by
 have a:0<2 ^ k:=Nat.pow_pos ω;have b:x-1=2 ^ k*(2*m)+(2 ^ k-1):=by
  rw[h,Nat.mul_add];omega
 show Nat.testBit (x&&&(x-1)) i=_;rw[QP,b,GE _ ω];by_cases h2:i<k
 ·rw[if_pos h2,pQ h,if_pos h2];simp
 ·rw[if_neg h2];by_cases h3:i=k
  ·subst h3;simp
  ·rw[pQ h,if_neg h2,if_neg h3,show i-k=(i-k-1)+1 by omega,Nat.testBit_succ,show 2*m / 2=m by omega];simp[h3]
def uZ:∀(n a:Nat) (p q:Nat->Bool) (k:Nat),a<=k->k<a+n->p k=true->(∀i,a<=i->i<k->p i=false)->(∀i,q i=(p i&&decide (i≠k)))->(List.range' a n).filter p=k::(List.range' a n).filter q
 |0,a,p,q,k,d,b,_,_,_=>ω
 |n+1,a,p,q,k,d,b,h3,h4,h5=>by
  rw[List.range'_succ];by_cases ha:a=k
  ·subst ha;have c:q a=false:=by rw[h5];simp
   rw[List.filter_cons_of_pos h3,ac4 (by rw[c];simp)];congr 1;apply HG;intro i f;have:a<i:=by
    have:=(List.mem_range'_1.1 f).1;omega
   rw[h5];simp;intro _;omega
  ·have e:p a=false:=h4 a (bl _) ω;have c:q a=false:=by rw[h5,e];rfl
   rw[ac4 (by rw[e];simp),ac4 (by rw[c];simp)];exact uZ n (a+1) p q k ω ω h3 (λi d b=>h4 i ω b) h5
def ED(h:x=2 ^ k*(2*m+1))(b:x<2 ^ 64):bitsOf x=k::bitsOf (Nat.land x (x-1)):=by
 have c:=(CR h b).1;unfold bitsOf;rw[List.range_eq_range'];refine uZ 64 0 _ _ k (hK _) ω (by rw[pQ h];simp) (λi _ a=>by rw[pQ h,if_pos a]) (λi=>NN h i)
def EE:bitsOf 0=[]:=by
 unfold bitsOf;rw[List.filter_eq_nil_iff];intro i _;simp
def EL:List Nat:=[0,1,56,2,57,49,28,3,61,58,42,50,38,29,17,4,62,47,59,36,45,43,51,22,53,39,33,30,24,18,12,5,63,55,48,27,60,41,37,16,46,35,44,21,52,32,23,11,54,26,40,15,34,20,31,10,25,14,19,9,13,8,7,6]
def U4:∀k:Fin 64,EL[((2 ^ k.val*285870213051353865) % 18446744073709551616)>>>58]? =some k.val:=by decide
def pop8(b:Nat):Nat:=((List.range 8).filter (Nat.testBit b)).length
variable{M q:Nat}
def Kl{r c s:Nat}(hr:r<256)(j:s<=8)(e:c<2 ^ (8-s)):Nat.land (Nat.shiftRight (2 ^ 8*q+r) s) (2 ^ 8*M+c)=2 ^ 8*Nat.land (Nat.shiftRight q s) M+Nat.land (Nat.shiftRight r s) c:=by
 have d:c<2 ^ 8:=m6 e (xl ω ω);have h:Nat.land (Nat.shiftRight r s) c<2 ^ 8:=xj (Nat.and_le_right (n:=Nat.shiftRight r s) (m:=c)) d;apply ab4;intro i;have f:∀a b:Nat,Nat.land a b=a&&&b:=λ_ _=>rfl;have g:∀a b:Nat,Nat.shiftRight a b=a>>>b:=λ_ _=>rfl;rw[GE _ h];simp only[f,g,QP,Nat.testBit_shiftRight];rw[GE _ hr,GE _ d];by_cases hi:i<8
 ·rw[if_pos hi,if_pos hi];by_cases hsi:s+i<8
  ·rw[if_pos hsi]
  ·have:c.testBit i=false:=Nat.testBit_lt_two_pow (m6 e (xl ω ω));rw[this,M2,M2]
 ·rw[if_neg hi,if_neg hi,if_neg ω];congr 2;omega
def NV{s:Nat}(b:q=0):Nat.land (Nat.shiftRight q s) M=0:=by
 subst b;have a:Nat.land (Nat.shiftRight 0 s) M=(0>>>s)&&&M:=rfl;rw[a];simp
def byt(l:List Nat):Nat:=l.foldr (λb q=>2 ^ 8*q+b) 0
def gV(b:Nat)(l:List Nat):byt (b::l)=2 ^ 8*byt l+b:=rfl
def lN{c s:Nat}(d:s<=8)(a:c<2 ^ (8-s)):∀l:List Nat,(∀b∈l,b<256)->Nat.land (Nat.shiftRight (byt l) s) (byt (l.map λ_=>c))=byt (l.map λb=>Nat.land (Nat.shiftRight b s) c)
 |[],_=>NV rfl
 |b::l,h=>by
  rw[xP,xP,gV,gV,gV,Kl (h b b7) d a,lN d a l λx hx=>h x (bz _ hx)]
def Cs(f g:Nat->Nat):∀l:List Nat,byt (l.map f)+byt (l.map g)=byt (l.map λb=>f b+g b)
 |[]=>rfl
 |b::l=>by
  simp only[xP,gV];rw[←Cs f g l];omega
def Mt(x:Nat):∀n,x<2 ^ (8*n)->∃l:List Nat,l.length=n/\(∀b∈l,b<256)/\x=byt l
 |0,h=>⟨[],rfl,λ_ h=>by simp at h,by simp at h;exact h⟩
 |n+1,h=>by
  obtain⟨l,h1,h2,h3⟩:=Mt (x / 2 ^ 8) n (by
   rw[Nat.div_lt_iff_lt_mul ω,←Nat.pow_add];exact m6 h (xl ω ω))
  refine⟨x % 2 ^ 8::l,by simp[h1],λb a=> ?_,?_⟩
  ·rcases List.mem_cons.1 a with rfl|a
   ·exact Nat.mod_lt _ ω
   ·exact h2 b a
  ·rw[gV,←h3];omega
def EF:∀(n:Nat) (l:List Nat),l.length=n->(∀b∈l,b<256)->((List.range (8*n)).filter (Nat.testBit (byt l))).length=(l.map pop8).sum
 |0,l,h,_=>by
  have:l=[]:=List.length_eq_zero_iff.1 h;subst this;rfl
 |n+1,[],h,_=>by simp at h
 |n+1,b::l,h,hb=>by
  have e:=EF n l (by simpa using h) λx d=>hb x (bz _ d);have a:b<2 ^ 8:=hb b b7;rw[show 8*(n+1)=8+8*n by omega,List.range_add,ac6,dk,xP,List.sum_cons];congr 1
  ·unfold pop8;congr 1;apply HG;intro i c;rw[gV,GE _ a,if_pos (by simpa using c)]
  ·rw[←e,List.filter_map,j3];congr 1;apply HG;intro i c;show Nat.testBit (byt (b::l)) (8+i)=_;rw[gV,GE _ a,if_neg ω];congr 1;omega
def st1(b:Nat):Nat:=Nat.land (Nat.shiftRight b 1) 85+Nat.land (Nat.shiftRight b 0) 85
def st2(b:Nat):Nat:=Nat.land (Nat.shiftRight b 2) 51+Nat.land (Nat.shiftRight b 0) 51
def PN:∀b:Fin 256,st1 b.val<256/\st2 (st1 b.val)<256/\st2 (st1 b.val) % 16+st2 (st1 b.val) / 16=pop8 b.val/\pop8 b.val<=8/\st2 (st1 b.val) % 16<=4/\st2 (st1 b.val) / 16<=4:=by decide
def len8{α:Type}{l:List α}(h:l.length=8):∃a b c d e f g i,l=[a,b,c,d,e,f,g,i]:=by
 match l,h with
 |[a,b,c,d,e,f,g,i],_=>exact⟨a,b,c,d,e,f,g,i,rfl⟩
def vZ(h:l.length=8)(c:Nat):byt (l.map λ_=>c)=c*72340172838076673:=by
 obtain⟨a,b,d,e,f,g,i,j,rfl⟩:=len8 h;show byt [c,c,c,c,c,c,c,c]=_;unfold byt;simp only[List.foldr];omega
def rO:∀{l:List Nat} (n:Nat),l.length=n->(∀b∈l,b<256)->byt l<2 ^ (8*n)
 |[],n,h,_=>by subst h;show 0<2 ^ 0;omega
 |b::l,n,h,hb=>by
  obtain⟨m,rfl⟩:∃m,n=m+1:=⟨n-1,by simp at h;omega⟩;have d:=rO m (by simpa using h) λx a=>hb x (bz _ a);have c:=hb b b7;rw[gV,show 8*(m+1)=8*m+8 by omega,Nat.pow_add];omega
def xT:byt []=0:=rfl
def qm{b:Nat}(h:b<256):byt (b::l) / 2 ^ 8=byt l:=by rw[gV];omega
structure ZP (x a1 b1 c1 a2 b2 c2 c3 c4 c5 c6:Nat):Prop where
 s1:Nat.land (Nat.shiftRight x 1) 6148914691236517205=a1/\Nat.land x 6148914691236517205=b1/\a1+b1=c1/\a1+b1<U64/\c1<U64
 s2:Nat.land (Nat.shiftRight c1 2) 3689348814741910323=a2/\Nat.land c1 3689348814741910323=b2/\a2+b2=c2/\a2+b2<U64/\c2<U64
 s3:Nat.shiftRight c2 4+c2<U64/\Nat.land (Nat.shiftRight c2 4+c2) 1085102592571150095=c3/\c3<U64
 s4:c3+Nat.shiftRight c3 8=c4/\c4<U64
 s5:c4+Nat.shiftRight c4 16=c5/\c5<U64
 s6:c5+Nat.shiftRight c5 32=c6/\c6<9223372036854775808
 fin:c6 % 128=(bitsOf x).length
def To(x:Nat):Nat.shiftRight x 0=x:=rfl
def PG(x n:Nat):Nat.shiftRight x n=x / 2 ^ n:=Nat.shiftRight_eq_div_pow x n
def Vn(b:Nat):Nat.land b 15=b % 16:=Nat.and_two_pow_sub_one_eq_mod b 4
def abw(hx:x<U64):∃H b1 c1 a2 b2 c2 c3 c4 c5 c6,ZP x H b1 c1 a2 b2 c2 c3 c4 c5 c6:=by
 obtain⟨l,G,t,rfl⟩:=Mt x 8 hx;have p:∀b∈l,st1 b<256/\st2 (st1 b)<256/\st2 (st1 b) % 16+st2 (st1 b) / 16=pop8 b/\pop8 b<=8/\st2 (st1 b) % 16<=4/\st2 (st1 b) / 16<=4:=λb e=>PN ⟨b,t b e⟩;have m1:=lN (c:=85) (s:=1) ω (by decide) l t;have W:=lN (c:=85) (s:=0) ω (by decide) l t;rw[vZ G]at m1 W;rw[To]at W;have Y:byt (l.map λb=>Nat.land (Nat.shiftRight b 1) 85)+byt (l.map λb=>Nat.land (Nat.shiftRight b 0) 85)=byt (l.map st1):=Cs _ _ l;have D:(l.map st1).length=8:=by simp[G]
 have o:∀b∈l.map st1,b<256:=λb e=>by
  obtain⟨a,C,rfl⟩:=List.mem_map.1 e;exact(p a C).1
 have E:=rO 8 D o;have n1:=lN (c:=51) (s:=2) ω (by decide) (l.map st1) o;have X:=lN (c:=51) (s:=0) ω (by decide) (l.map st1) o;rw[vZ D]at n1 X;rw[To]at X;have Z:byt ((l.map st1).map λb=>Nat.land (Nat.shiftRight b 2) 51)+byt ((l.map st1).map λb=>Nat.land (Nat.shiftRight b 0) 51)=byt ((l.map st1).map st2):=Cs _ _ _;have A:((l.map st1).map st2).length=8:=by simp[G]
 have u:∀b∈(l.map st1).map st2,b<256:=λb e=>by
  obtain⟨H,w,rfl⟩:=List.mem_map.1 e;obtain⟨a,C,rfl⟩:=List.mem_map.1 w;exact(p a C).2.1
 have F:=rO 8 A u;have r:∀b∈(l.map st1).map st2,b % 16<=4/\b / 16<=4:=λb e=>by
  obtain⟨H,w,rfl⟩:=List.mem_map.1 e;obtain⟨a,C,rfl⟩:=List.mem_map.1 w;exact(p a C).2.2.2.2
 have v:(((l.map st1).map st2).map λb=>b % 16+b / 16).sum=(bitsOf (byt l)).length:=by
  have I:(bitsOf (byt l)).length=(l.map pop8).sum:=EF 8 l G t;rw[I,List.map_map,List.map_map];congr 1;apply List.map_congr_left;intro b e;exact(p b e).2.2.1
 generalize(l.map st1).map st2=m at*;obtain⟨n,f,g,h,i,j,k,d,rfl⟩:=len8 A;have J:=r n (by simp);have K:=r f (by simp);have L:=r g (by simp);have M:=r h (by simp);have N:=r i (by simp);have O:=r j (by simp);have P:=r k (by simp);have k7:=r d (by simp);have hm:byt [n,f,g,h,i,j,k,d]=n+256*f+65536*g+16777216*h+4294967296*i+1099511627776*j+281474976710656*k+72057594037927936*d:=by
  unfold byt;simp only[List.foldr];omega
 have hz:Nat.shiftRight (byt [n,f,g,h,i,j,k,d]) 4+byt [n,f,g,h,i,j,k,d]=byt [n+n / 16+16*(f % 16),f+f / 16+16*(g % 16),g+g / 16+16*(h % 16),h+h / 16+16*(i % 16),i+i / 16+16*(j % 16),j+j / 16+16*(k % 16),k+k / 16+16*(d % 16),d+d / 16]:=by
  rw[PG,hm];unfold byt;simp only[List.foldr];omega
 have B:∀b∈[n+n / 16+16*(f % 16),f+f / 16+16*(g % 16),g+g / 16+16*(h % 16),h+h / 16+16*(i % 16),i+i / 16+16*(j % 16),j+j / 16+16*(k % 16),k+k / 16+16*(d % 16),d+d / 16],b<256:=by
  intro b e;simp only[Ps,ac1,or_false]at e;rcases e with rfl|rfl|rfl|rfl|rfl|rfl|rfl|rfl<;>omega
 have p1:=lN (c:=15) (s:=0) ω (by decide) _ B;rw[vZ ρ,To]at p1;have V:=rO 8 ρ B
 have hy:byt ([n+n / 16+16*(f % 16),f+f / 16+16*(g % 16),g+g / 16+16*(h % 16),h+h / 16+16*(i % 16),i+i / 16+16*(j % 16),j+j / 16+16*(k % 16),k+k / 16+16*(d % 16),d+d / 16].map λb=>Nat.land (Nat.shiftRight b 0) 15)=
  byt [n % 16+n / 16,f % 16+f / 16,g % 16+g / 16,h % 16+h / 16,i % 16+i / 16,j % 16+j / 16,k % 16+k / 16,d % 16+d / 16]:=by
  simp only[List.map,To,Vn];have q:∀x y:Nat,x % 16<=4->x / 16<=4->(x+x / 16+16*(y % 16)) % 16=x % 16+x / 16:=λx y h1 h2=>ω
  rw[q _ _ J.1 J.2,q _ _ K.1 K.2,q _ _ L.1 L.2,q _ _ M.1 M.2,q _ _ N.1 N.2,q _ _ O.1 O.2,q _ _ P.1 P.2,show(d+d / 16) % 16=d % 16+d / 16 by omega]
 simp only[List.map,List.sum_cons,List.sum_nil]at v;have r0:n % 16+n / 16<=8:=ω
 have r1:f % 16+f / 16<=8:=ω
 have r2:g % 16+g / 16<=8:=ω
 have r3:h % 16+h / 16<=8:=ω
 have r4:i % 16+i / 16<=8:=ω
 have r5:j % 16+j / 16<=8:=ω
 have r6:k % 16+k / 16<=8:=ω
 have r7:d % 16+d / 16<=8:=ω
 clear r B u A;generalize n % 16+n / 16=d0 at*;generalize f % 16+f / 16=d1 at*;generalize g % 16+g / 16=d2 at*;generalize h % 16+h / 16=d3 at*;generalize i % 16+i / 16=d4 at*;generalize j % 16+j / 16=d5 at*;generalize k % 16+k / 16=d6 at*;generalize d % 16+d / 16=d7 at*;clear J K L M N O P k7;have v4:byt [d0,d1,d2,d3,d4,d5,d6,d7] / 2 ^ 8=byt [d1,d2,d3,d4,d5,d6,d7]:=qm ω;have w4:byt [d0,d1,d2,d3,d4,d5,d6,d7]+byt [d1,d2,d3,d4,d5,d6,d7]=byt [d0+d1,d1+d2,d2+d3,d3+d4,d4+d5,d5+d6,d6+d7,d7]:=by
  simp only[gV,xT];omega
 have v5:byt [d0+d1,d1+d2,d2+d3,d3+d4,d4+d5,d5+d6,d6+d7,d7] / 2 ^ 16=byt [d2+d3,d3+d4,d4+d5,d5+d6,d6+d7,d7]:=by
  rw[show 2 ^ 16=2 ^ 8*2 ^ 8 from rfl,←Nat.div_div_eq_div_mul,qm ω,qm ω]
 have w5:byt [d0+d1,d1+d2,d2+d3,d3+d4,d4+d5,d5+d6,d6+d7,d7]+byt [d2+d3,d3+d4,d4+d5,d5+d6,d6+d7,d7]=byt [d0+d1+d2+d3,d1+d2+d3+d4,d2+d3+d4+d5,d3+d4+d5+d6,d4+d5+d6+d7,d5+d6+d7,d6+d7,d7]:=by
  simp only[gV,xT];omega
 have v6:byt [d0+d1+d2+d3,d1+d2+d3+d4,d2+d3+d4+d5,d3+d4+d5+d6,d4+d5+d6+d7,d5+d6+d7,d6+d7,d7] / 2 ^ 32=byt [d4+d5+d6+d7,d5+d6+d7,d6+d7,d7]:=by
  rw[show 2 ^ 32=2 ^ 8*2 ^ 8*2 ^ 8*2 ^ 8 from rfl,←Nat.div_div_eq_div_mul,←Nat.div_div_eq_div_mul,←Nat.div_div_eq_div_mul,qm ω,qm ω,qm ω,qm ω]
 have w6:byt [d0+d1+d2+d3,d1+d2+d3+d4,d2+d3+d4+d5,d3+d4+d5+d6,d4+d5+d6+d7,d5+d6+d7,d6+d7,d7]+byt [d4+d5+d6+d7,d5+d6+d7,d6+d7,d7]=byt [d0+d1+d2+d3+d4+d5+d6+d7,d1+d2+d3+d4+d5+d6+d7,d2+d3+d4+d5+d6+d7,d3+d4+d5+d6+d7,d4+d5+d6+d7,d5+d6+d7,d6+d7,d7]:=by
  simp only[gV,xT];omega
 have Q:byt [d0,d1,d2,d3,d4,d5,d6,d7]<U64:=rO 8 rfl (by intro b e;simp only[Ps,ac1,or_false]at e;omega);have S:byt [d0+d1,d1+d2,d2+d3,d3+d4,d4+d5,d5+d6,d6+d7,d7]<U64:=rO 8 rfl (by intro b e;simp only[Ps,ac1,or_false]at e;omega);have T:byt [d0+d1+d2+d3,d1+d2+d3+d4,d2+d3+d4+d5,d3+d4+d5+d6,d4+d5+d6+d7,d5+d6+d7,d6+d7,d7]<U64:=rO 8 rfl (by intro b e;simp only[Ps,ac1,or_false]at e;omega);have U:byt [d0+d1+d2+d3+d4+d5+d6+d7,d1+d2+d3+d4+d5+d6+d7,d2+d3+d4+d5+d6+d7,d3+d4+d5+d6+d7,d4+d5+d6+d7,d5+d6+d7,d6+d7,d7]<9223372036854775808:=by
  have h7:=rO (l:=[d0+d1+d2+d3+d4+d5+d6+d7,d1+d2+d3+d4+d5+d6+d7,d2+d3+d4+d5+d6+d7,d3+d4+d5+d6+d7,d4+d5+d6+d7,d5+d6+d7,d6+d7]) 7 rfl (by intro b e;simp only[Ps,ac1,or_false]at e;omega);simp only[gV,xT]at h7⊢;omega
 have fin:byt [d0+d1+d2+d3+d4+d5+d6+d7,d1+d2+d3+d4+d5+d6+d7,d2+d3+d4+d5+d6+d7,d3+d4+d5+d6+d7,d4+d5+d6+d7,d5+d6+d7,d6+d7,d7] % 128=d0+d1+d2+d3+d4+d5+d6+d7:=by
  rw[gV];generalize byt _=z;omega
 refine⟨_,_,_,_,_,_,byt [d0,d1,d2,d3,d4,d5,d6,d7],byt [d0+d1,d1+d2,d2+d3,d3+d4,d4+d5,d5+d6,d6+d7,d7],byt [d0+d1+d2+d3,d1+d2+d3+d4,d2+d3+d4+d5,d3+d4+d5+d6,d4+d5+d6+d7,d5+d6+d7,d6+d7,d7],byt [d0+d1+d2+d3+d4+d5+d6+d7,d1+d2+d3+d4+d5+d6+d7,d2+d3+d4+d5+d6+d7,d3+d4+d5+d6+d7,d4+d5+d6+d7,d5+d6+d7,d6+d7,d7],⟨m1,W,Y,?_,E⟩,⟨n1,X,Z,?_,F⟩,⟨?_,?_,Q⟩,⟨?_,S⟩,⟨?_,T⟩,⟨?_,U⟩,?_⟩
 ·rw[Y];exact E
 ·rw[Z];exact F
 ·rw[hz];exact V
 ·rw[hz];exact p1.trans hy
 ·rw[PG,v4,w4]
 ·rw[PG,v5,w5]
 ·rw[PG,v6,w6]
 ·rw[fin,←v];omega
abbrev Tab(h:Heap):Prop:=h.get 0=some (.cells (EL.map λn=> .int .u8 (n:Nat)) false 1)
def U9(g:Tab h):ev h e (.global 0)=some (sb 0):=by
 simp only[ev];rw[g]
def Tab.ext{h':Heap}(g:Tab h)(x:Ext h h')(a:0<h.next):Tab h':=(x.old 0 a).trans g
def NQ{v:Nat}(e:v<9223372036854775808):af .and (zc (v:Nat)) (zc 127)=some (zc ((v % 128:Nat):Int)):=by
 have a:(BitVec.ofInt 64 ((v:Nat):Int)).toNat=v:=by rw[BitVec.ofInt_natCast,BitVec.toNat_ofNat];omega
 have b:(BitVec.ofInt 64 (127:Int)).toNat=127:=by decide
 have c:((BitVec.ofInt 64 ((v:Nat):Int))&&&(BitVec.ofInt 64 (127:Int))).toNat=v % 128:=by
  rw[BitVec.toNat_and,a,b];exact Nat.and_two_pow_sub_one_eq_mod v 7
 show arith .and .i64 (v:Nat) 127=_;have:arith .and .i64 (v:Nat) 127=some (zc (IntKind.i64.wrap ((BitVec.ofInt 64 ((v:Nat):Int))&&&(BitVec.ofInt 64 (127:Int))).toNat)):=rfl;rw[this,c];have d:IntKind.i64.wrap ((v % 128:Nat):Int)=((v % 128:Nat):Int):=by
  unfold IntKind.wrap;simp[IntKind.signed,IntKind.bits];omega
 rw[d]
def Sw(G:aK T)(F:T 135=some f254)(hr:Rdy h)(i:x<U64):Pu T 135 [.int .u64 (x:Nat)] h (zc ((bitsOf x).length:Nat)):=by
 refine .of G F hr rfl ?_;obtain⟨a1,b1,c,a2,b2,d,e,f,g,E,⟨z,A,B,Z,C⟩,⟨u,v,w,Y,p5⟩,⟨s,t,o3⟩,⟨r,X⟩,⟨q,W⟩,⟨p,V⟩,fin⟩:=abw i;have D:∀y n:Nat,y<U64->Nat.shiftRight y n<U64:=λy n H=>xj (by rw[PG];exact Nat.div_le_self _ _) H;have k1:af .shr (.int .u64 (x:Nat)) (.int .u64 1)=some (.int .u64 ((Nat.shiftRight x 1:Nat):Int)):=xk (n:=1) ω;have N:af .and (.int .u64 ((Nat.shiftRight x 1:Nat):Int)) (.int .u64 6148914691236517205)=_:=vo (a:=Nat.shiftRight x 1) (b:=6148914691236517205) (D _ _ i) ω;have O:af .and (.int .u64 (x:Nat)) (.int .u64 6148914691236517205)=_:=vo (a:=x) (b:=6148914691236517205) i ω;rw[z]at N;rw[A]at O;have P:=wq Z;rw[B]at P;have k5:af .shr (.int .u64 (c:Nat)) (.int .u64 2)=some (.int .u64 ((Nat.shiftRight c 2:Nat):Int)):=xk (n:=2) ω;have Q:af .and (.int .u64 ((Nat.shiftRight c 2:Nat):Int)) (.int .u64 3689348814741910323)=_:=vo (a:=Nat.shiftRight c 2) (b:=3689348814741910323) (D _ _ C) ω;have S:af .and (.int .u64 (c:Nat)) (.int .u64 3689348814741910323)=_:=vo (a:=c) (b:=3689348814741910323) C ω;rw[u]at Q;rw[v]at S;have U:=wq Y;rw[w]at U;have k9:af .shr (.int .u64 (d:Nat)) (.int .u64 4)=some (.int .u64 ((Nat.shiftRight d 4:Nat):Int)):=xk (n:=4) ω;have I:=wq s;have j:af .and (.int .u64 ((Nat.shiftRight d 4+d:Nat):Int)) (.int .u64 1085102592571150095)=_:=vo (b:=1085102592571150095) s ω;rw[t]at j;have J:af .shr (.int .u64 (e:Nat)) (.int .u64 8)=some (.int .u64 ((Nat.shiftRight e 8:Nat):Int)):=xk (n:=8) ω;have k:=wq (a:=e) (b:=Nat.shiftRight e 8) (by rw[r];exact X);rw[r]at k;have K:af .shr (.int .u64 (f:Nat)) (.int .u64 16)=some (.int .u64 ((Nat.shiftRight f 16:Nat):Int)):=xk (n:=16) ω;have l:=wq (a:=f) (b:=Nat.shiftRight f 16) (by rw[q];exact W);rw[q]at l;have L:af .shr (.int .u64 (g:Nat)) (.int .u64 32)=some (.int .u64 ((Nat.shiftRight g 32:Nat):Int)):=xk (n:=32) ω;have m:=wq (a:=g) (b:=Nat.shiftRight g 32) (by rw[p];omega);rw[p]at m;have o:=NQ V;rw[fin]at o;have M:=aO (n:=(E:Int)) ω ω;clear z A B u v w t r q p;refine Y40 ?_;refine Y12 ?_;refine aG (yy ρ τ) ?_;refine Y4 ?_;exact an hr.log rfl rfl
def wrap_u64(n:Int):IntKind.u64.wrap n=n % 18446744073709551616:=by
 unfold IntKind.wrap;simp[IntKind.signed,IntKind.bits]
def Ij(n:Nat):fU .u64 (n:Int)=((n % 18446744073709551616:Nat):Int):=by
 by_cases h:n<18446744073709551616
 ·rw[p9 h,Nat.mod_eq_of_lt h]
 ·have e:((n:Nat):Int)=Int.ofNat n:=rfl;rw[e];simp only[fU];rw[sE h,cond_false,wrap_u64];rfl
def ZD(t:aK T)(p:T 129=some f266)(hr:Rdy h)(l:Tab h)(g:x<U64)(c:x=2 ^ k*(2*m+1)):Pu T 129 [.int .u64 (x:Nat)] h (zc (k:Nat)):=by
 refine .of t p hr rfl ?_;obtain⟨s,d⟩:=CR c g;have u:0<x:=by
  rw[c];exact Nat.mul_pos (Nat.pow_pos ω) ω
 have z:af .eql (.int .u64 (x:Nat)) (.int .u64 0)=some (.bool false):=jH ω;have A:vH .neg (.int .u64 (x:Nat))=some (.int .u64 ((2 ^ 64-x:Nat):Int)):=by
  show some (Value.int .u64 (fU .u64 (0-(x:Int))))=_;have:fU .u64 (0-(x:Int))=((2 ^ 64-x:Nat):Int):=by
   obtain⟨y,rfl⟩:∃y,x=y+1:=⟨x-1,ω⟩;have e:(0-((y+1:Nat):Int))=Int.negSucc y:=ω
   rw[e];simp only[fU];rw[sE ω,cond_false,wrap_u64,Int.negSucc_emod _ ω];have:(y:Int) % 18446744073709551616=y:=Int.emod_eq_of_lt ω (by unfold U64 at g;omega);unfold U64 at g;omega
  rw[this]
 have v:=vo (a:=x) (b:=2 ^ 64-x) g ω;rw[d]at v;have B:af .mul (.int .u64 ((2 ^ k:Nat):Int)) (.int .u64 285870213051353865)=some (.int .u64 (((2 ^ k*285870213051353865) % 18446744073709551616:Nat):Int)):=by
  show some (Value.int .u64 (fU .u64 (((2 ^ k:Nat):Int)*285870213051353865)))=_;rw[←Ij];congr 2
 have C:af .shr (.int .u64 (((2 ^ k*285870213051353865) % 18446744073709551616:Nat):Int)) (.int .u64 58)=some (.int .u64 ((Nat.shiftRight ((2 ^ k*285870213051353865) % 18446744073709551616) 58:Nat):Int)):=xk (n:=58) ω;have f:=U4 ⟨k,s⟩;dsimp only at f;have o:((2 ^ k*285870213051353865) % 18446744073709551616)>>>58=Nat.shiftRight ((2 ^ k*285870213051353865) % 18446744073709551616) 58:=rfl;rw[o]at f;generalize Nat.shiftRight ((2 ^ k*285870213051353865) % 18446744073709551616) 58=j at*;have r:j<64:=(List.getElem?_eq_some_iff.1 f).1;have w:bN (EL.map λn=>Value.int .u8 (n:Nat)) (0+j*1)=some (.int .u8 (k:Nat)):=by
  rw[cC,hF,xr,wt,f];rfl
 have D:=aO (n:=(k:Int)) ω ω;have q:h.get 0=some (.cells (EL.map λn=> .int .u8 (n:Nat)) false 1):=l;refine Y14 ?_;refine aG (LS ρ τ) ?_;refine Y3 ?_;refine aG (uO (i:=j) (k:= .u64) (U9 l) ρ r) ?_;refine aG (cw ρ τ τ) ?_;refine aG (yy ρ τ) ?_;refine Y3 ?_;exact an hr.log rfl rfl
def inR(n a b:Int):Bool:=decide (a<=n/\n<=b)
def YH(d:aK T)(c:T 130=some f215)(hr:Rdy h)(n a b:Int):Pu T 130 [zc n, zc a, zc b] h (.bool (inR n a b)):=by
 refine .of d c hr rfl ?_;unfold inR;by_cases h1:a<=n
 ·by_cases h2:n<=b
  ·rw[decide_eq_true ⟨h1,h2⟩];refine Y18 ?_;exact an hr.log rfl rfl
  ·rw[decide_eq_false (λq=>h2 q.2)];refine Y18 ?_;exact an hr.log rfl rfl
 ·rw[decide_eq_false (λq=>h1 q.1)];refine Y15 ?_;exact an hr.log rfl rfl
def YF(d:aK T)(c:T 68=some f106)(hr:Rdy h)(n a b:Int):Pu T 68 [zc n, zc a, zc b] h (.bool (inR n a b)):=by
 refine .of d c hr rfl ?_;unfold inR;by_cases h1:a<=n
 ·by_cases h2:n<=b
  ·rw[decide_eq_true ⟨h1,h2⟩];refine Y18 ?_;exact an hr.log rfl rfl
  ·rw[decide_eq_false (λq=>h2 q.2)];refine Y18 ?_;exact an hr.log rfl rfl
 ·rw[decide_eq_false (λq=>h1 q.1)];refine Y15 ?_;exact an hr.log rfl rfl
def No(d:aK T)(c:T 43=some f113)(hr:Rdy h)(n a b:Int):Pu T 43 [zc n, zc a, zc b] h (.bool (inR n a b)):=by
 refine .of d c hr rfl ?_;unfold inR;by_cases h1:a<=n
 ·by_cases h2:n<=b
  ·rw[decide_eq_true ⟨h1,h2⟩];refine Y18 ?_;exact an hr.log rfl rfl
  ·rw[decide_eq_false (λq=>h2 q.2)];refine Y18 ?_;exact an hr.log rfl rfl
 ·rw[decide_eq_false (λq=>h1 q.1)];refine Y15 ?_;exact an hr.log rfl rfl
def IL(e:aK T)(d:T 59=some f90)(hr:Rdy h)(c:IsS a):Pu T 59 [sv a] h (.bool (decide (a=s0))):=by
 refine .of e d hr rfl ?_;have f:=aU c.len;have g:=aN c.len;refine Y5 ?_;refine aG (bW ρ YG τ τ) ?_;refine aG (mS ρ) ?_;refine aG (jK (b:=s0) ρ ρ c.len rfl) ?_;refine Y3 ?_;exact an hr.log rfl rfl
structure Ce where
 x:Int
 y:Int
 z:Int
 deriving DecidableEq
def ceL(c:Ce):List Value:=[zc c.x, zc c.y, zc c.z]
def ceV(c:Ce):Value:= .agg (ceL c).toArray
def inG(c:Ce):Bool:=decide ((0<=c.x/\c.x<=7)/\(0<=c.y/\c.y<=7)/\0<=c.z/\c.z<=7)
def Kc(a:aK T)(b:T 97=some f126)(d:T 130=some f215)(hr:Rdy h)(c:Ce):Pu T 97 [ceV c] h (.bool (inG c)):=by
 obtain⟨x,y,z⟩:=c;refine .of a b hr rfl ?_;have C:=λn=>YH a d (.of (hr.wf.push (qt (cellsOf (ceV ⟨x,y,z⟩))))) n 0 7;unfold inG ceV ceL at*;dsimp only at C⊢;refine Y8 ?_;refine FW.pu (C x) ?_;by_cases h1:0<=x/\x<=7
 ·rw[show inR x 0 7=true from decide_eq_true h1];refine Y7 ?_;refine FW.pu (C y) ?_;by_cases h2:0<=y/\y<=7
  ·rw[show inR y 0 7=true from decide_eq_true h2];refine Y8 ?_;refine FW.pu (C z) ?_;by_cases h3:0<=z/\z<=7
   ·rw[show inR z 0 7=true from decide_eq_true h3,decide_eq_true ⟨h1,h2,h3⟩];clear C;refine Y4 ?_;exact an hr.log rfl rfl
   ·rw[show inR z 0 7=false from decide_eq_false h3,decide_eq_false λq=>h3 q.2.2];clear C;refine Y4 ?_;exact an hr.log rfl rfl
  ·rw[show inR y 0 7=false from decide_eq_false h2,decide_eq_false λq=>h2 q.2.1];clear C;refine Y9 ?_;exact an hr.log rfl rfl
 ·rw[show inR x 0 7=false from decide_eq_false h1,decide_eq_false λq=>h1 q.1];clear C;refine Y13 ?_;exact an hr.log rfl rfl
def Bw(b:aK T)(a:T 122=some f225)(hr:Rdy h)(c:Ce):Pu T 122 [ceV c] h (.bool (inG c)):=by
 obtain⟨x,y,z⟩:=c;refine .of b a hr rfl ?_;unfold inG ceV ceL;dsimp only;by_cases h0:0<=x
 ·skip;by_cases h1:x<=7
  ·skip;by_cases h2:0<=y
   ·skip;by_cases h3:y<=7
    ·skip;by_cases h4:0<=z
     ·skip;by_cases h5:z<=7
      ·rw[decide_eq_true ⟨⟨h0,h1⟩,⟨h2,h3⟩,h4,h5⟩];refine Y40 ?_;refine Y11 ?_;exact an hr.log rfl rfl
      ·rw[decide_eq_false λq=>h5 q.2.2.2];refine Y40 ?_;refine Y11 ?_;exact an hr.log rfl rfl
     ·rw[decide_eq_false λq=>h4 q.2.2.1];refine Y40 ?_;refine Y8 ?_;exact an hr.log rfl rfl
    ·rw[decide_eq_false λq=>h3 q.2.1.2];refine Y40 ?_;refine Y5 ?_;exact an hr.log rfl rfl
   ·rw[decide_eq_false λq=>h2 q.2.1.1];refine Y40 ?_;refine Y2 ?_;exact an hr.log rfl rfl
  ·rw[decide_eq_false λq=>h1 q.1.2];refine Y39 ?_;exact an hr.log rfl rfl
 ·rw[decide_eq_false λq=>h0 q.1.1];refine Y36 ?_;exact an hr.log rfl rfl
def Hf{k:IntKind}(e:n<64):af .shl (.int .u64 1) (.int k (n:Nat))=some (.int .u64 ((2 ^ n:Nat):Int)):=by
 have a:((n:Nat):Int)=Int.ofNat n:=rfl;have b:(1:Int)=Int.ofNat 1:=rfl;rw[a,b];have:af .shl (.int .u64 (Int.ofNat 1)) (.int k (Int.ofNat n))=some (.int .u64 (.ofNat (Nat.mod (Nat.shiftLeft 1 (Nat.min n 64)) 18446744073709551616))):=rfl;rw[this,show Nat.min n 64=n from FX ω];have c:Nat.shiftLeft 1 n=2 ^ n:=by
  have:=Nat.shiftLeft_eq 1 n;rw[ab5]at this;exact this
 have d:2 ^ n<18446744073709551616:=(show 2 ^ n<2 ^ 64 from Nat.pow_lt_pow_right ω e);rw[c,show Nat.mod (2 ^ n) 18446744073709551616=2 ^ n from Nat.mod_eq_of_lt d];rfl
def vC(a:n<64):2 ^ n<U64:=(show 2 ^ n<2 ^ 64 from Nat.pow_lt_pow_right ω a)
def Ny:Nat.land x (2 ^ n)=if Nat.testBit x n then 2 ^ n else 0:=by
 apply ab4;intro i;show Nat.testBit (x&&&2 ^ n) i=_;rw[QP,Nat.testBit_two_pow];by_cases h:n=i
 ·subst h;cases hb:Nat.testBit x n<;>simp
 ·cases hb:Nat.testBit x n<;>simp[h]
def fk(z i:Nat):Ce:=⟨(i % 8:Nat),(i / 8:Nat),(z:Nat)⟩
def iP{c:Ce}(h:inG c=true):∃z i:Nat,z<8/\i<64/\c=fk z i:=by
 obtain⟨x,y,z⟩:=c;have h:=of_decide_eq_true h;dsimp only at h;refine⟨z.toNat,(8*y+x).toNat,ω,ω,?_⟩;unfold fk;rw[Ce.mk.injEq];refine⟨ω,ω,ω⟩
variable{z:Nat}
def Nq(a:z<8)(hi:i<64):inG (fk z i)=true:=by
 apply decide_eq_true;unfold fk;dsimp only;omega
def UT(b:aK T)(a:T 98=some f127)(hr:Rdy h)(hi:i<64):Pu T 98 [ceV (fk z i)] h (.int .u64 ((2 ^ i:Nat):Int)):=by
 refine .of b a hr rfl ?_;have c:vj 8 ((i / 8:Nat):Int) (8*((i / 8:Nat):Int)):=zK ω ω;have d:zE (8*((i / 8:Nat):Int)) ((i % 8:Nat):Int) ((i:Nat):Int):=fK (by rw[aO]<;>omega);have e:=Hf (k:= .i64) hi;unfold ceV ceL fk;dsimp only;refine Y15 ?_;exact an hr.log rfl rfl
def eU(s:List Nat)(c:Ce):Bool:=inG c&&Nat.testBit (s.getD c.z.toNat 0) (8*c.y.toNat+c.x.toNat)
def gi(a:z<8)(hi:i<64):eU s (fk z i)=Nat.testBit (s.getD z 0) i:=by
 unfold eU;rw[Nq a hi,yi];unfold fk;dsimp only;congr 1;omega
def lU(hi:i<s.length):s[i]? =some (s.getD i 0):=by
 rw[dn,bx hi];rfl
def IsS.lV(a:IsS s)(i:Nat):s.getD i 0<U64:=by
 rw[dn];by_cases hi:i<s.length
 ·rw[bx hi];exact a.lt _ (CS hi)
 ·rw[kz ω];show 0<U64;decide
def RU:(decide (Nat.land x (2 ^ n)≠0))=Nat.testBit x n:=by
 rw[Ny];cases hb:Nat.testBit x n
 ·simp
 ·have:0<2 ^ n:=Nat.pow_pos ω;simp
end Go.A.Pk
end
section
namespace Go.A
variable {T:Nat->Option aq}
def Kv(g:Nat)(vs:List Value)(n:Nat):Heap:=⟨[(g, .cells vs false 1)],n,[]⟩
variable{g n:Nat}{vs:List Value}
def sJ(x:Nat):(Kv g vs n).get x=if x=g then some (.cells vs false 1)else none:=by
 show fT [(g, .cells vs false 1)] x=_;simp only[fT,cond_eq_ite,beq_eq,decide_eq_true_eq];by_cases h:g=x
 ·rw[if_pos h,if_pos h.symm]
 ·rw[if_neg h,if_neg (Ne.symm h)]
variable{P:Program}
def R.Kv{μ:Mu}{h:Heap}{w:World}(q:R P μ h w)(s:h.get g=some (.cells vs false 1))(B:dQ vs=true)(z:P.globals.size<=n)(j:g<n):
 R P (λb=>if b=g then μ g else Option.none) (A.Kv g vs n) w:=by
 refine⟨z,λx o C p=> ?_,λb o d=> ?_,λb o d=> ?_,λb k d=> ?_,λb F o H k G r d f=> ?_⟩
 ·rw[sJ]at p;split at p
  ·rename_i e;subst e;cases p;obtain⟨k,a,b,c,x⟩:=q.mU _ _ C s;exact⟨k,by rw[if_pos rfl];exact a,b,c,x⟩
  ·cases p
 ·rw[sJ]at d;split at d
  ·rename_i e;subst e;cases d;intro k m;replace m:(if b=b then μ b else Option.none)=some k:=m;rw[if_pos rfl]at m;obtain⟨y,c,u,v,z1,z2,z3,z4,z5⟩:=q.obj _ _ s k m;refine⟨y,c,u,v,z1,z2,z3,λi t=> ?_,z5⟩;obtain⟨D,y1,E⟩:=z4 i t;have l:=DM B i t;exact⟨D,y1,by rw[(VR.oV l).2 _ E];exact(VR.oV l).1⟩
  ·cases d
 ·rw[sJ]at d;split at d
  ·rename_i e;subst e;exact j
  ·cases d
 ·replace d:(if b=g then μ g else Option.none)=some k:=d;split at d
  ·rename_i e;subst e;exact⟨j,(q.dom _ _ d).2⟩
  ·cases d
 ·rw[sJ]at d f;split at d
  ·rename_i e;split at f
   ·rename_i e';exact(r (e.trans e'.symm)).elim
   ·cases f
  ·cases d
def LR.Ho{μ:Mu}:∀{args args':List Value},(∀a∈args,dA a=true)->LR μ args args'→args'=args
 |[],_,_,h=>by cases h;rfl
 |a::l,_,hn,h=>by
  cases h with
  |cons h1 h2=>rw[(VR.dA (hn a b7)).2 _ h1,LR.Ho (λx hx=>hn x (bz _ hx)) h2]
def LR.zT{μ:Mu}:∀{args:List Value},(∀a∈args,dA a=true)->LR μ args args
 |[],_=> .nil
 |a::l,hn=> .cons (VR.dA (hn a b7)).1 (LR.zT λx hx=>hn x (bz _ hx))
variable{f:Nat}{fn:Func}{p:List Value→Heap→Option (Value×Heap)}
def O1(G:eZ P T)(I:P.funcs[f]? =some fn)(j:fn.name≠ "runtime.NumGoroutine")(hb:fn.body.isSome=true)(K:P.globals.size≤n)(y:g<n)(z:iu (T f)=false)(N:dQ vs=true)
 (H:∀c v h t,p c h=some (v,t)->t=h/\h.get g=some (.cells vs false 1)/\(∀a∈c,dA a=true)/\dA v=true/\CW T f c (Kv g vs n) λr _=>r= .ret v):Ci P f p:=by
 intro c h u t L _;obtain⟨rfl,J,D,F,r,S,⟨m,A⟩,rfl⟩:=H _ _ _ _ L;refine⟨.refl _ _,λμ w d x i=> ?_⟩;rw[i.Ho D];have l:=A m (bl _);have:=og G l rfl z (x.Kv J N K y) (args':=c) (.zT D);refine lY I j hb this λe Q M=> ?_;obtain⟨μ',C,V,q⟩:=M;cases e with
 |returned v'=>
  have B:VR μ' u v':=C;rw[(VR.dA F).2 _ B];have E:∀r,r<w.heap.size->Q.heap[r]? =w.heap[r]? :=λr A=>q.keep r A λ⟨b,o,k,s,U,O,_⟩=>by
   rw[sJ]at s;split at s
   ·cases s;cases O
   ·cases s
  exact⟨μ,(VR.dA F).1,(x.grow q.le E q.same).1,(x.grow q.le E q.same).2⟩
 |panicked _=>exact C.elim
 |outgrown=>exact C.elim
def O0(D:eZ P T)(E:P.funcs[f]? =some fn)(i:fn.name≠ "runtime.NumGoroutine")(hb:fn.body.isSome=true)(F:P.globals.size≤n)(s:iu (T f)=false)
 (H:∀c v h q,p c h=some (v,q)->q=h/\(∀a∈c,dA a=true)/\dA v=true/\CW T f c ⟨[],n,[]⟩ λr _=>r= .ret v):Ci P f p:=by
 intro c h u q G _;obtain⟨rfl,A,C,r,L,⟨m,t⟩,rfl⟩:=H _ _ _ _ G;refine⟨.refl _ _,λμ w d z g=> ?_⟩;rw[g.Ho A];have j:=t m (bl _);have:=og D j rfl s (R.none (P:=P) (w:=w) F) (args':=c) (.zT A);refine lY E i hb this λe K I=> ?_;obtain⟨μ',y,M,l⟩:=I;cases e with
 |returned v'=>
  have x:VR μ' u v':=y;rw[(VR.dA C).2 _ x];have B:∀r,r<w.heap.size->K.heap[r]? =w.heap[r]? :=λr t=>l.keep r t λ⟨b,o,k,J,_⟩=>by cases J
  exact⟨μ,(VR.dA C).1,(z.grow l.le B l.same).1,(z.grow l.le B l.same).2⟩
 |panicked _=>exact y.elim
 |outgrown=>exact y.elim
end Go.A
end
section
namespace Go.A.Pk
variable {T:Nat->Option aq}
def qG:List Value->Option (List Nat)
 |[]=>some []
 | .int .u64 (.ofNat n)::l=>bif Nat.blt n 18446744073709551616 then match qG l with
  |some m=>some (n::m)
  |none=>none
   else none
 |_=>none
def Ts(v:Value):Option (List Nat):=
 match v with
 | .agg c=>match qG c.toList with
   |some l=>bif Nat.beq (bS l) 8 then some l else none
   |none=>none
 |_=>none
def uA:∀{l:List Value} {m:List Nat},qG l=some m->l=us m/\∀x∈m,x<U64
 |[],m,h=>by cases h;exact⟨rfl,λ_ h=>by simp at h⟩
 |v::l,m,h=>by
  unfold qG at h;split at h
  ·rename_i heq;cases heq
  ·rename_i n l' heq;cases heq;simp only[cond_eq_ite,blt_eq,ec,decide_eq_true_eq]at h;obtain⟨hn,h⟩:=h;split at h
   ·rename_i m' hm;cases h;obtain⟨e,b⟩:=uA hm;refine⟨by rw[e];rfl,λx a=> ?_⟩;rcases List.mem_cons.1 a with rfl|a
    ·exact hn
    ·exact b x a
   ·cases h
  ·cases h
def Js{v:Value}{s:List Nat}(h:Ts v=some s):v=sv s/\IsS s:=by
 unfold Ts at h;split at h
 ·rename_i c;split at h
  ·rename_i l hl;simp only[cond_eq_ite,beq_eq,cK,ec,decide_eq_true_eq]at h;obtain⟨b,h⟩:=h;cases h;obtain⟨e,a⟩:=uA hl;refine⟨?_,b,a⟩;show Value.agg c= .agg (us s).toArray;rw[←e]
  ·cases h
 ·cases h
def Ab:∀{s:List Nat},(∀x∈s,x<U64)->qG (us s)=some s
 |[],_=>rfl
 |x::s,h=>by
  have e:us (x::s)= .int .u64 (.ofNat x)::us s:=rfl;rw[e];unfold qG;simp only[gW (h x b7),cond_true,Ab λy a=>h y (bz _ a)]
def inB:List Nat->List Nat->Bool
 |[],[]=>true
 |x::xs,y::ys=>bif Nat.beq (Nat.land x y) x then inB xs ys else false
 |_,_=>false
def Np:∀{a b:List Nat},a.length=b.length->inB a b=sIn a b
 |[],[],_=>rfl
 |x::xs,y::ys,h=>by
  have ih:=Np (a:=xs) (b:=ys) (by simpa using h);simp only[inB,ih,cond_eq_ite,beq_eq,decide_eq_true_eq];unfold sIn sU tU;simp only[List.zipWith_cons_cons,List.cons.injEq];by_cases hx:Nat.land x y=x
  ·simp[hx]
  ·simp[hx]
 |[],_::_,h=>by simp at h
 |_::_,[],h=>by simp at h
def pIn:List Value->Heap->Option (Value×Heap)
 |[a,b],h=>match Ts a,Ts b with
  |some x,some y=>some (.bool (inB x y),h)
  |_,_=>none
 |_,_=>none
def SK(l:aK T)(j:T 53=some f35)(k:T 94=some f121){n:Nat}:∀c v h e,pIn c h=some (v,e)->e=h/\(∀a∈c,dA a=true)/\dA v=true/\CW T 53 c ⟨[],n,[]⟩ λr _=>r= .ret v:=by
 intro c v h e d;unfold pIn at d;split at d
 ·rename_i a b;split at d
  ·rename_i x y hx hy;cases d;obtain⟨rfl,g⟩:=Js hx;obtain⟨rfl,i⟩:=Js hy;refine⟨rfl,λz f=> ?_,rfl,?_⟩
   ·simp only[Ps,ac1,or_false]at f;rcases f with rfl|rfl<;>exact iQ _
   ·rw[Np (g.len.trans i.len.symm)];refine CW.mono (GW l j k (h:=⟨[],n,[]⟩) ⟨⟨by simp,by simp⟩,rfl⟩ g i) λr h d=>d.1
  ·cases d
 ·cases d
end Go.A.Pk
end
