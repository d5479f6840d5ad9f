/- Solids. -/
import Derived.Test.YtalmahakphchfaaGreatDoorNF
import Derived.Test.YtalmahakphchfaaGreatDoorND
set_option linter.all false
set_option maxRecDepth 100000
section
namespace Go.A.Pk
variable {T:Nat->Option af}
abbrev U64:Nat:=18446744073709551616
def us(pl:List Nat):List Value:=pl.map λn=> .int .u64 (n:Nat)
def sv(pl:List Nat):Value:= .agg (us pl).toArray
structure IsS (s:List Nat):Prop where
 len:s.length=8
 lt:∀x∈s,x<U64
theorem aI(l:List Nat):(us l).length=l.length:=by simp[us]
theorem zD:∀l:List Nat,cU (us l)=true
 |[]=>rfl
 |x::l=>by
  show cU (.int .u64 (x:Nat)::us l)=true;simp only[cU,jV,ji,cond_true];exact zD l
theorem jk(s:List Nat):cT (sv s)=true:=by
 show flat (.agg (us s).toArray)=true;simp only[flat];exact zD s
theorem cg:∀l:List Nat,cK (us l)=true
 |[]=>rfl
 |x::l=>by
  show cK (.int .u64 (x:Nat)::us l)=true;simp only[cK];exact cg l
theorem pX{pl:List Nat}{i n:Nat}(hi:pl[i]? =some n):aT (us pl) (0+i*1)=some (.int .u64 (n:Nat)):=by
 rw[cA,Nat.mul_one,Nat.zero_add,us,List.getElem?_map,hi];rfl
theorem bR{s:List Nat}(h:s.length=8):bB 8 (bA 0 (us s))=us s:=by
 rw[cZ,cw,List.drop_zero,List.take_of_length_le (by rw[aI];omega)]
theorem aR{s:List Nat}(h:s.length=8):Nat.beq (bK (us s)) 8=true:=by
 rw[bM,aI,h];rfl
theorem DM{l:List Nat}{i n:Nat}:us (l.set i n)=(us l).set (0+i*1) (.int .u64 (n:Nat)):=by
 rw[Nat.zero_add,Nat.mul_one,us,us,List.map_set]
def qZ(f:Nat->Nat->Nat)(a b:List Nat):List Nat:=List.zipWith f a b
abbrev xw(x y:Nat):Nat:=Nat.xor x (Nat.land x y)
theorem ya{x y:Nat}(hx:x<U64):Nat.land x y<U64:=Nat.lt_of_le_of_lt (Nat.and_le_left (n:=x) (m:=y)) hx
theorem NI{x y:Nat}(hx:x<U64)(hy:y<U64):Nat.lor x y<U64:=Nat.or_lt_two_pow (n:=64) hx hy
theorem J9{x y:Nat}(hx:x<U64):xw x y<U64:=Nat.xor_lt_two_pow (n:=64) hx (ya hx)
theorem Hs{a b:Nat}(ha:a<U64)(hb:b<U64):ah .andNot (.int .u64 a) (.int .u64 b)=some (.int .u64 ((xw a b:Nat):Int)):=by
 have e1:((a:Nat):Int)=Int.ofNat a:=rfl;have e2:((b:Nat):Int)=Int.ofNat b:=rfl;have h1:(Nat.blt a 18446744073709551616&&Nat.blt b 18446744073709551616)=true:=by
  simp only[blt_eq,Bool.and_eq_true,decide_eq_true_eq];exact⟨ha,hb⟩
 rw[e1,e2];simp only[ah,arith,mC,h1,cond_true,if_true];rfl
def sd(f:Nat->Nat->Nat)(a b:List Nat)(i:Nat):List Nat:=List.zipWith f (a.take i) (b.take i)++a.drop i
theorem wm(f:Nat->Nat->Nat)(a b:List Nat):sd f a b 0=a:=by simp[sd]
theorem Az{f:Nat->Nat->Nat}{a b:List Nat}(ha:a.length=8)(hb:b.length=8):sd f a b 8=qZ f a b:=by
 rw[sd,List.take_of_length_le (by omega),List.take_of_length_le (by omega),List.drop_eq_nil_of_le (by omega),List.append_nil,qZ]
theorem AB{f:Nat->Nat->Nat}{a b:List Nat}{i:Nat}(ha:a.length=8)(hb:b.length=8)(hi:i<=8):(sd f a b i).length=8:=by
 simp[sd,ha,hb];omega
theorem Dq{f:Nat->Nat->Nat}{a b:List Nat}{i x:Nat}(ha:a.length=8)(hb:b.length=8)(hi:a[i]? =some x):(sd f a b i)[i]? =some x:=by
 have hi8:i<8:=by rw[←ha];exact(List.getElem?_eq_some_iff.1 hi).1
 rw[sd,List.getElem?_append_right (by simp[ha,hb];omega)];simp[ha,hb,Nat.min_eq_left (Nat.le_of_lt hi8),hi]
theorem AD{f:Nat->Nat->Nat}{a b:List Nat}{i x y:Nat}(ha:a.length=8)(hb:b.length=8)(hx:a[i]? =some x)(hy:b[i]? =some y):(sd f a b i).set i (f x y)=sd f a b (i+1):=by
 have hia:i<a.length:=(List.getElem?_eq_some_iff.1 hx).1;have hib:i<b.length:=(List.getElem?_eq_some_iff.1 hy).1;apply List.ext_getElem?;intro j;have hl:(List.zipWith f (a.take i) (b.take i)).length=i:=by simp;omega
 have hl2:(List.zipWith f (a.take (i+1)) (b.take (i+1))).length=i+1:=by simp;omega
 rw[List.getElem?_set];unfold sd;by_cases h1:i=j
 ·subst h1;rw[if_pos rfl,if_pos (by simp;omega)];rw[List.getElem?_append_left (by omega),List.getElem?_zipWith,List.getElem?_take_of_lt (by omega),List.getElem?_take_of_lt (by omega),hx,hy]
 ·rw[if_neg h1];by_cases h2:j<i
  ·rw[List.getElem?_append_left (by omega),List.getElem?_append_left (by omega),List.getElem?_zipWith,List.getElem?_zipWith];simp only[List.getElem?_take_of_lt h2,List.getElem?_take_of_lt (show j<i+1 by omega)]
  ·rw[List.getElem?_append_right (by omega),List.getElem?_append_right (by omega),hl,hl2,List.getElem?_drop,List.getElem?_drop];congr 1;omega
theorem IsS.map{f:Nat->Nat->Nat}{a b:List Nat}(ha:IsS a)(hb:IsS b)(hf:∀x y,x<U64->y<U64->f x y<U64):IsS (qZ f a b):=by
 refine⟨by simp[qZ,ha.len,hb.len],λz hz=> ?_⟩;obtain⟨i,hi,rfl⟩:=List.mem_iff_getElem.1 hz;simp only[qZ,List.getElem_zipWith];exact hf _ _ (ha.lt _ (List.getElem_mem _)) (hb.lt _ (List.getElem_mem _))
def M3(a b:List Nat):List Nat:=qZ Nat.lor a b
def oq(a b:List Nat):List Nat:=qZ Nat.land a b
def vj(a b:List Nat):List Nat:=qZ xw a b
theorem IsS.meet{a b:List Nat}(ha:IsS a)(hb:IsS b):IsS (oq a b):=ha.map hb λ_ _ h1 _=>ya h1
theorem IsS.less{a b:List Nat}(ha:IsS a)(hb:IsS b):IsS (vj a b):=ha.map hb λ_ _ h1 _=>J9 h1
theorem KH(hp:aV T)(hf:T 73=some f121){h:Heap}(hr:Rdy h){a b:List Nat}(ha:IsS a)(hb:IsS b):Pu T 73 [sv a,sv b] h (sv (oq a b)):=by
 refine .of hp hf hr (jk _) ?_;refine Y10 ?_;refine bW (λm e ds h'=>∃i:Nat,i<=8/\m=8-i/\e=[(2, .pointer (some ⟨h.next,0,none⟩)),(3, .pointer (some ⟨h.next+1,0,none⟩)),(4, .pointer (some ⟨h.next+2,0,none⟩)),(6, .int .i64 (i:Nat))]/\ds=[]/\h'.log=[]/\h'.next=h.next+3∧
  h'.get h.next=some (.cells (us (sd Nat.land a b i)) true 1)/\h'.get (h.next+1)=some (.cells (us b) true 1)/\h'.get (h.next+2)=some (.cells (aL 8 (.int .u64 0)) true 1))
  ⟨0,by omega,rfl,rfl,rfl,hr.log,rfl,?_,?_,?_⟩ ?_
 ·rw[wm];(simp(disch:=first|omega|(simp only[z1,z2];omega))only[z3,z4,z5,z6,z7,z1,z2];exact rfl)
 ·exact YG
 ·exact YG
 rintro m e ds h1 ⟨i,hin,rfl,rfl,rfl,hl,hn,g1,g2,g3⟩;by_cases hlt:i<8
 ·obtain⟨x,hx⟩:∃x,a[i]? =some x:=⟨a[i]'(by rw[ha.len];exact hlt),List.getElem?_eq_getElem _⟩;obtain⟨y,hy⟩:∃x,b[i]? =some x:=⟨b[i]'(by rw[hb.len];exact hlt),List.getElem?_eq_getElem _⟩;have e1:=pX (Dq (f:=Nat.land) ha.len hb.len hx);have e2:=pX hy;have o1:=qE (ha.lt _ (List.mem_of_getElem? hx)) (hb.lt _ (List.mem_of_getElem? hy));have l1:=AB (f:=Nat.land) ha.len hb.len hin;refine Y22 ?_;refine wY rfl rfl rfl (by exact rfl) (by exact rfl) (by exact rfl) (by assumption) (by exact rfl) (by exact rfl) (by(simp only[aI];omega)) (by omega) (by omega) (by(repeat apply aK rfl);exact bV) ?_;refine vt ?_;refine Y7 ?_;refine⟨8-(i+1),by omega,i+1,by omega,rfl,rfl,rfl,?_,?_,?_,?_,?_⟩
  ·rw[Heap.aq (Nat.le_refl _)];exact hl
  ·exact hn
  ·rw[z6,g1,z7];rw[←AD ha.len hb.len hx hy,DM]
  ·rw[z5 (by omega)];exact g2
  ·rw[z5 (by omega)];exact g3
 ·obtain rfl:i=8:=by omega
  rw[Az ha.len hb.len]at g1;have k1:=bR (ha.meet hb).len;have k2:=aR (ha.meet hb).len;have k3:=(ha.meet hb).len;refine Y10 ?_;refine y4 ?_;refine yV ?_;refine aA (bh (by exact rfl) (by exact rfl) (by assumption) (by(simp only[aI];assumption)) (by exact rfl) (by exact cg _)) ?_;refine y3 ?_;refine vw ?_;refine ak ?_ (bH (own:=true) (s:=1) rfl ?_ k1 k2 rfl) rfl
  ·rw[Heap.aq (by omega)];exact hl
  ·exact YG
theorem Jb(hp:aV T)(hf:T 101=some f140){h:Heap}(hr:Rdy h){a b:List Nat}(ha:IsS a)(hb:IsS b):Pu T 101 [sv a,sv b] h (sv (vj a b)):=by
 refine .of hp hf hr (jk _) ?_;refine Y10 ?_;refine bW (λm e ds h'=>∃i:Nat,i<=8/\m=8-i/\e=[(2, .pointer (some ⟨h.next,0,none⟩)),(3, .pointer (some ⟨h.next+1,0,none⟩)),(4, .pointer (some ⟨h.next+2,0,none⟩)),(5, .int .i64 (i:Nat))]/\ds=[]/\h'.log=[]/\h'.next=h.next+3∧
  h'.get h.next=some (.cells (us (sd xw a b i)) true 1)/\h'.get (h.next+1)=some (.cells (us b) true 1)/\h'.get (h.next+2)=some (.cells (aL 8 (.int .u64 0)) true 1))
  ⟨0,by omega,rfl,rfl,rfl,hr.log,rfl,?_,?_,?_⟩ ?_
 ·rw[wm];(simp(disch:=first|omega|(simp only[z1,z2];omega))only[z3,z4,z5,z6,z7,z1,z2];exact rfl)
 ·exact YG
 ·exact YG
 rintro m e ds h1 ⟨i,hin,rfl,rfl,rfl,hl,hn,g1,g2,g3⟩;by_cases hlt:i<8
 ·obtain⟨x,hx⟩:∃x,a[i]? =some x:=⟨a[i]'(by rw[ha.len];exact hlt),List.getElem?_eq_getElem _⟩;obtain⟨y,hy⟩:∃x,b[i]? =some x:=⟨b[i]'(by rw[hb.len];exact hlt),List.getElem?_eq_getElem _⟩;have e1:=pX (Dq (f:=xw) ha.len hb.len hx);have e2:=pX hy;have o1:=Hs (ha.lt _ (List.mem_of_getElem? hx)) (hb.lt _ (List.mem_of_getElem? hy));have l1:=AB (f:=xw) ha.len hb.len hin;refine Y20 ?_;refine wY rfl rfl rfl (by exact rfl) (by exact rfl) (by exact rfl) (by assumption) (by exact rfl) (by exact rfl) (by(simp only[aI];omega)) (by omega) (by omega) (by(repeat apply aK rfl);exact bV) ?_;refine vt ?_;refine Y8 ?_;refine⟨8-(i+1),by omega,i+1,by omega,rfl,rfl,rfl,?_,?_,?_,?_,?_⟩
  ·rw[Heap.aq (Nat.le_refl _)];exact hl
  ·exact hn
  ·rw[z6,g1,z7];rw[←AD ha.len hb.len hx hy,DM]
  ·rw[z5 (by omega)];exact g2
  ·rw[z5 (by omega)];exact g3
 ·obtain rfl:i=8:=by omega
  rw[Az ha.len hb.len]at g1;have k1:=bR (ha.less hb).len;have k2:=aR (ha.less hb).len;have k3:=(ha.less hb).len;refine Y8 ?_;refine Eg ?_;refine Kz ?_;refine vE ?_;refine y4 ?_;refine yV ?_;refine aA (bh (by exact rfl) (by exact rfl) (by assumption) (by(simp only[aI];assumption)) (by exact rfl) (by exact cg _)) ?_;refine y3 ?_;refine vw ?_;refine ak ?_ (bH (own:=true) (s:=1) rfl ?_ k1 k2 rfl) rfl
  ·rw[Heap.aq (by omega)];exact hl
  ·exact YG
theorem sF:∀(a b:List Nat),a.length=b.length->bG (aL a.length (.i .u64)) (us a) (us b)=some (decide (a=b))
 |[],[],_=>rfl
 |x::a,y::b,h=>by
  have hl:a.length=b.length:=by simpa using h
  have ih:=sF a b hl;show bG (aL (a.length+1) (.i .u64)) (.int .u64 (x:Nat)::us a) (.int .u64 (y:Nat)::us b)=_;simp only[aL,bG,iy,if_true];by_cases hxy:x=y
  ·subst hxy;simp only[beq_self_eq_true,ih,List.cons.injEq,true_and]
  ·have:((x:Int)==(y:Int))=false:=by simp;omega
   simp only[this,ih];rw[decide_eq_false];intro q;injection q with q _;exact hxy q
 |[],_::_,h=>by simp at h
 |_::_,[],h=>by simp at h
theorem Fa{a b:List Nat}(ha:a.length=8)(hb:b.length=8):bG (aL 8 (.i .u64)) (us a).toArray.toList (us b).toArray.toList=some (decide (a=b)):=by
 have:=sF a b (by omega);rw[ha]at this;simpa using this
theorem wS(pl:List Nat):iG (.agg (us pl).toArray) (.agg (us pl).toArray)=true:=by
 refine lB ?_;rw[List.toList_toArray];induction pl with
 |nil=>rfl
 |cons p pl ih=>exact dg (ej _ _) ih
def s0:List Nat:=[0,0,0,0,0,0,0,0]
theorem om:IsS s0:=⟨rfl,λx hx=>by simp[s0]at hx;subst hx;decide⟩
theorem j0{base:Nat}{h:Heap}{e:Env}{x y:Operand}{a b:List Nat}{neq:Bool}(hx:ev h e x=some (sv a))(hy:ev h e y=some (sv b))(ha:a.length=8)(hb:b.length=8):
 aop h base e (.bin (.agg neq (aL 8 (.i .u64))) x y)=some (.val (.bool (bif neq then !decide (a=b)else decide (a=b))) h):=PC hx hy (Fa ha hb)
def sIn(a b:List Nat):Bool:=decide (oq a b=a)
theorem Nx(hp:aV T)(hf:T 39=some f35)(hm:T 73=some f121){h:Heap}(hr:Rdy h){a b:List Nat}(ha:IsS a)(hb:IsS b):Pu T 39 [sv a,sv b] h (.bool (sIn a b)):=by
 refine .of hp hf hr rfl ?_;have k1:=bR ha.len;have k2:=aR ha.len;have k3:=bR hb.len;have k4:=aR hb.len;refine Y7 ?_;refine cD rfl rfl rfl (by exact rfl) (by exact rfl) (by exact rfl) (cQ (by exact rfl) YG (by assumption) (by assumption)) ?_;refine cD rfl rfl rfl (by exact rfl) (by exact rfl) (by exact rfl) (cQ (by exact rfl) YG (by assumption) (by assumption)) ?_;refine cD rfl rfl rfl (by exact rfl) (by exact rfl) (by exact rfl) (cQ (by exact rfl) YG (by assumption) (by assumption)) ?_;refine qC ?_;refine FW.puD (KH hp hm (.of ((((hr.wf.push _).push _)))) ha hb) (by apply aM rfl (aG rfl (cQ (by exact rfl) YG (by assumption) (by assumption)) (by exact wS _)) rfl;(repeat apply aK rfl);exact bV) ?_;skip;refine cD rfl rfl rfl (by exact rfl) (by exact rfl) (by exact rfl) (j0 (by exact rfl) (by exact rfl) (ha.meet hb).len ha.len) ?_;refine Y5 ?_;exact ak hr.log rfl rfl
theorem wg{x y:Nat}:xw x y=0↔Nat.land x y=x:=by
 constructor
 ·intro h;apply Nat.eq_of_testBit_eq;intro i;have:=congrArg (λz=>Nat.testBit z i) h;simp only[xw]at this;have e:Nat.testBit (x ^^^ (x&&&y)) i=false:=by rw[show x ^^^ (x&&&y)=0 from h];simp
  rw[Nat.testBit_xor,Nat.testBit_and]at e;show Nat.testBit (x&&&y) i=_;rw[Nat.testBit_and];cases h1:Nat.testBit x i<;>cases h2:Nat.testBit y i<;>rw[h1,h2]at e<;>first|rfl|cases e
 ·intro h;show x ^^^ (Nat.land x y)=0;rw[h];simp
theorem Jg{a b:List Nat}(ha:a.length=8)(hb:b.length=8):(vj a b=s0)↔oq a b=a:=by
 have h8:∀i,i<8->(vj a b)[i]? =some (xw (a.getD i 0) (b.getD i 0))/\(oq a b)[i]? =some (Nat.land (a.getD i 0) (b.getD i 0))/\a[i]? =some (a.getD i 0)/\s0[i]? =some 0:=λi hi=>by
  have e1:a[i]? =some (a.getD i 0):=by rw[List.getD_eq_getElem?_getD,List.getElem?_eq_getElem (by omega)];rfl
  have e2:b[i]? =some (b.getD i 0):=by rw[List.getD_eq_getElem?_getD,List.getElem?_eq_getElem (by omega)];rfl
  refine⟨?_,?_,e1,?_⟩
  ·rw[vj,qZ,List.getElem?_zipWith,e1,e2]
  ·rw[oq,qZ,List.getElem?_zipWith,e1,e2]
  ·have:i=0∨i=1∨i=2∨i=3∨i=4∨i=5∨i=6∨i=7:=by omega
   rcases this with rfl|rfl|rfl|rfl|rfl|rfl|rfl|rfl<;>rfl
 constructor
 ·intro h;apply List.ext_getElem?;intro i;by_cases hi:i<8
  ·obtain⟨q1,q2,q3,q4⟩:=h8 i hi;rw[h,q4]at q1;rw[q2,q3,Option.some.injEq];exact wg.1 (Option.some.inj q1).symm
  ·rw[List.getElem?_eq_none (by rw[oq,qZ,List.length_zipWith];omega),List.getElem?_eq_none (by omega)]
 ·intro h;apply List.ext_getElem?;intro i;by_cases hi:i<8
  ·obtain⟨q1,q2,q3,q4⟩:=h8 i hi;rw[h,q3]at q2;rw[q1,q4,Option.some.injEq];exact wg.2 (Option.some.inj q2).symm
  ·rw[List.getElem?_eq_none (by rw[vj,qZ,List.length_zipWith];omega),List.getElem?_eq_none (by show 8<=i;omega)]
theorem M0(hp:aV T)(hf:T 59=some f52)(hm:T 101=some f140){h:Heap}(hr:Rdy h){a b:List Nat}(ha:IsS a)(hb:IsS b):Pu T 59 [sv a,sv b] h (.bool (sIn a b)):=by
 have e:sIn a b=decide (vj a b=s0):=by unfold sIn;exact decide_eq_decide.2 (Jg ha.len hb.len).symm
 rw[e];refine .of hp hf hr rfl ?_;have k1:=bR ha.len;have k2:=aR ha.len;have k3:=bR hb.len;have k4:=aR hb.len;refine Y6 ?_;refine aA (cQ (by exact rfl) YG (by assumption) (by assumption)) ?_;refine aA (cQ (by exact rfl) YG (by assumption) (by assumption)) ?_;refine yC ?_;refine FW.pu (Jb hp hm (.of ((((hr.wf.push _).push _)))) ha hb) ?_;refine aA (lE (by exact rfl)) ?_;refine aA (j0 (b:=s0) (by exact rfl) (by exact rfl) (ha.less hb).len rfl) ?_;refine Y3 ?_;exact ak hr.log rfl rfl
end Go.A.Pk
end
section
namespace Go.A.Pk
def bitsOf(x:Nat):List Nat:=(List.range 64).filter (Nat.testBit x)
theorem AJ:∀x:Nat,x≠0->∃k m,x=2 ^ k*(2*m+1)
 |x,hx=>by
  by_cases h:x % 2=1
  ·exact⟨0,x / 2,by omega⟩
  ·obtain⟨k,m,e⟩:=AJ (x / 2) (by omega);exact⟨k+1,m,by rw[Nat.pow_succ,Nat.mul_comm (2 ^ k) 2,Nat.mul_assoc,←e];omega⟩
 termination_by x=>x
theorem l7{x k m:Nat}(h:x=2 ^ k*(2*m+1))(i:Nat):Nat.testBit x i=(if i<k then false else if i=k then true else Nat.testBit m (i-k-1)):=by
 rw[h,Nat.testBit_two_pow_mul];by_cases h1:i<k
 ·simp[h1,show¬k<=i by omega]
 ·rw[if_neg h1];simp only[ge_iff_le,show k<=i by omega,decide_true,Bool.true_and];by_cases h2:i=k
  ·subst h2;simp
  ·rw[if_neg h2,show i-k=(i-k-1)+1 by omega,Nat.testBit_succ];congr 1;omega
theorem yb{x k m:Nat}(h:x=2 ^ k*(2*m+1))(hx:x<2 ^ 64):k<64/\Nat.land x (2 ^ 64-x)=2 ^ k:=by
 have hk:k<64:=by
  apply Nat.lt_of_not_le;intro hk;have h1:2 ^ 64<=2 ^ k:=Nat.pow_le_pow_right (by omega) hk;have h2:2 ^ k*1<=2 ^ k*(2*m+1):=Nat.mul_le_mul_left _ (by omega);omega
 refine⟨hk,?_⟩;obtain⟨d,hd⟩:∃d,64=k+1+d:=⟨63-k,by omega⟩;have hp:2 ^ 64=2 ^ k*(2*2 ^ d):=by rw[hd,Nat.pow_add,Nat.pow_succ,Nat.mul_assoc]
 have hm:2*m+1<2*2 ^ d:=by
  rw[h,hp]at hx;exact Nat.lt_of_mul_lt_mul_left hx
 have hsub:2 ^ 64-x=2 ^ k*(2*(2 ^ d-(m+1))+1):=by
  rw[h,hp,←Nat.mul_sub];congr 1;omega
 rw[hsub,h];apply Nat.eq_of_testBit_eq;intro i;show Nat.testBit (_&&&_) i=_;rw[Nat.testBit_and,l7 rfl,l7 rfl,Nat.testBit_two_pow];by_cases h1:i<k
 ·simp[h1,show¬k=i by omega]
 ·by_cases h2:i=k
  ·subst h2;simp
  ·simp only[h1,h2,if_false,show¬k=i by omega,decide_false];rw[Nat.testBit_two_pow_sub_succ (by omega)];cases Nat.testBit m (i-k-1)<;>simp
theorem Hl{x k m:Nat}(h:x=2 ^ k*(2*m+1))(i:Nat):Nat.testBit (Nat.land x (x-1)) i=(Nat.testBit x i&&decide (i≠k)):=by
 have hpos:0<2 ^ k:=Nat.pow_pos (by omega);have h1:x-1=2 ^ k*(2*m)+(2 ^ k-1):=by
  rw[h,Nat.mul_add];omega
 show Nat.testBit (x&&&(x-1)) i=_;rw[Nat.testBit_and,h1,Nat.testBit_two_pow_mul_add _ (by omega)];by_cases h2:i<k
 ·rw[if_pos h2,l7 h,if_pos h2];simp
 ·rw[if_neg h2];by_cases h3:i=k
  ·subst h3;simp
  ·rw[l7 h,if_neg h2,if_neg h3,show i-k=(i-k-1)+1 by omega,Nat.testBit_succ,show 2*m / 2=m by omega];simp[h3]
theorem qw:∀(n a:Nat) (p q:Nat->Bool) (k:Nat),a<=k->k<a+n->p k=true->(∀i,a<=i->i<k->p i=false)->(∀i,q i=(p i&&decide (i≠k)))->(List.range' a n).filter p=k::(List.range' a n).filter q
 |0,a,p,q,k,h1,h2,_,_,_=>by omega
 |n+1,a,p,q,k,h1,h2,h3,h4,h5=>by
  rw[List.range'_succ];by_cases ha:a=k
  ·subst ha;have hq:q a=false:=by rw[h5];simp
   rw[List.filter_cons_of_pos h3,List.filter_cons_of_neg (by rw[hq];simp)];congr 1;apply List.filter_congr;intro i hi;have:a<i:=by
    have:=(List.mem_range'_1.1 hi).1;omega
   rw[h5];simp;intro _;omega
  ·have hp:p a=false:=h4 a (Nat.le_refl _) (by omega);have hq:q a=false:=by rw[h5,hp];rfl
   rw[List.filter_cons_of_neg (by rw[hp];simp),List.filter_cons_of_neg (by rw[hq];simp)];exact qw n (a+1) p q k (by omega) (by omega) h3 (λi h1 h2=>h4 i (by omega) h2) h5
theorem zQ{x k m:Nat}(h:x=2 ^ k*(2*m+1))(hx:x<2 ^ 64):bitsOf x=k::bitsOf (Nat.land x (x-1)):=by
 have hk:=(yb h hx).1;unfold bitsOf;rw[List.range_eq_range'];refine qw 64 0 _ _ k (Nat.zero_le _) (by omega) (by rw[l7 h];simp) (λi _ hi=>by rw[l7 h,if_pos hi]) (λi=>Hl h i)
theorem zR:bitsOf 0=[]:=by
 unfold bitsOf;rw[List.filter_eq_nil_iff];intro i _;simp
def zZ:List Nat:=[0,1,56,2,57,49,28,3,61,58,42,50,38,29,17,4,62,47,59,36,45,43,51,22,53,39,33,30,24,18,12,5,63,55,48,27,60,41,37,16,46,35,44,21,52,32,23,11,54,26,40,15,34,20,31,10,25,14,19,9,13,8,7,6]
theorem Nl:∀k:Fin 64,zZ[((2 ^ k.val*285870213051353865) % 18446744073709551616)>>>58]? =some k.val:=by decide
def pop8(b:Nat):Nat:=((List.range 8).filter (Nat.testBit b)).length
theorem El{q r M c s:Nat}(hr:r<256)(hs:s<=8)(hc:c<2 ^ (8-s)):Nat.land (Nat.shiftRight (2 ^ 8*q+r) s) (2 ^ 8*M+c)=2 ^ 8*Nat.land (Nat.shiftRight q s) M+Nat.land (Nat.shiftRight r s) c:=by
 have hc8:c<2 ^ 8:=Nat.lt_of_lt_of_le hc (Nat.pow_le_pow_right (by omega) (by omega));have hl:Nat.land (Nat.shiftRight r s) c<2 ^ 8:=Nat.lt_of_le_of_lt (Nat.and_le_right (n:=Nat.shiftRight r s) (m:=c)) hc8;apply Nat.eq_of_testBit_eq;intro i;have e1:∀a b:Nat,Nat.land a b=a&&&b:=λ_ _=>rfl;have e2:∀a b:Nat,Nat.shiftRight a b=a>>>b:=λ_ _=>rfl;rw[Nat.testBit_two_pow_mul_add _ hl];simp only[e1,e2,Nat.testBit_and,Nat.testBit_shiftRight];rw[Nat.testBit_two_pow_mul_add _ hr,Nat.testBit_two_pow_mul_add _ hc8];by_cases hi:i<8
 ·rw[if_pos hi,if_pos hi];by_cases hsi:s+i<8
  ·rw[if_pos hsi]
  ·have:c.testBit i=false:=Nat.testBit_lt_two_pow (Nat.lt_of_lt_of_le hc (Nat.pow_le_pow_right (by omega) (by omega)));rw[this,Bool.and_false,Bool.and_false]
 ·rw[if_neg hi,if_neg hi,if_neg (by omega)];congr 2;omega
theorem Hx{q s M:Nat}(hq:q=0):Nat.land (Nat.shiftRight q s) M=0:=by
 subst hq;have e1:Nat.land (Nat.shiftRight 0 s) M=(0>>>s)&&&M:=rfl;rw[e1];simp
def byt(l:List Nat):Nat:=l.foldr (λb q=>2 ^ 8*q+b) 0
theorem fJ(b:Nat)(l:List Nat):byt (b::l)=2 ^ 8*byt l+b:=rfl
theorem jC{c s:Nat}(hs:s<=8)(hc:c<2 ^ (8-s)):∀l:List Nat,(∀b∈l,b<256)->Nat.land (Nat.shiftRight (byt l) s) (byt (l.map λ_=>c))=byt (l.map λb=>Nat.land (Nat.shiftRight b s) c)
 |[],_=>Hx rfl
 |b::l,h=>by
  rw[List.map_cons,List.map_cons,fJ,fJ,fJ,El (h b List.mem_cons_self) hs hc,jC hs hc l λx hx=>h x (List.mem_cons_of_mem _ hx)]
theorem xK(f g:Nat->Nat):∀l:List Nat,byt (l.map f)+byt (l.map g)=byt (l.map λb=>f b+g b)
 |[]=>rfl
 |b::l=>by
  simp only[List.map_cons,fJ];rw[←xK f g l];omega
theorem Gp(x:Nat):∀n,x<2 ^ (8*n)->∃l:List Nat,l.length=n/\(∀b∈l,b<256)/\x=byt l
 |0,h=>⟨[],rfl,λ_ h=>by simp at h,by simp at h;exact h⟩
 |n+1,h=>by
  obtain⟨l,h1,h2,h3⟩:=Gp (x / 2 ^ 8) n (by
   rw[Nat.div_lt_iff_lt_mul (by omega),←Nat.pow_add];exact Nat.lt_of_lt_of_le h (Nat.pow_le_pow_right (by omega) (by omega)))
  refine⟨x % 2 ^ 8::l,by simp[h1],λb hb=> ?_,?_⟩
  ·rcases List.mem_cons.1 hb with rfl|hb
   ·exact Nat.mod_lt _ (by omega)
   ·exact h2 b hb
  ·rw[fJ,←h3];omega
theorem zS:∀(n:Nat) (l:List Nat),l.length=n->(∀b∈l,b<256)->((List.range (8*n)).filter (Nat.testBit (byt l))).length=(l.map pop8).sum
 |0,l,h,_=>by
  have:l=[]:=List.length_eq_zero_iff.1 h;subst this;rfl
 |n+1,[],h,_=>by simp at h
 |n+1,b::l,h,hb=>by
  have ih:=zS n l (by simpa using h) λx hx=>hb x (List.mem_cons_of_mem _ hx);have hb8:b<2 ^ 8:=hb b List.mem_cons_self;rw[show 8*(n+1)=8+8*n by omega,List.range_add,List.filter_append,List.length_append,List.map_cons,List.sum_cons];congr 1
  ·unfold pop8;congr 1;apply List.filter_congr;intro i hi;rw[fJ,Nat.testBit_two_pow_mul_add _ hb8,if_pos (by simpa using hi)]
  ·rw[←ih,List.filter_map,List.length_map];congr 1;apply List.filter_congr;intro i hi;show Nat.testBit (byt (b::l)) (8+i)=_;rw[fJ,Nat.testBit_two_pow_mul_add _ hb8,if_neg (by omega)];congr 1;omega
def st1(b:Nat):Nat:=Nat.land (Nat.shiftRight b 1) 85+Nat.land (Nat.shiftRight b 0) 85
def st2(b:Nat):Nat:=Nat.land (Nat.shiftRight b 2) 51+Nat.land (Nat.shiftRight b 0) 51
theorem Jp:∀b:Fin 256,st1 b.val<256/\st2 (st1 b.val)<256/\st2 (st1 b.val) % 16+st2 (st1 b.val) / 16=pop8 b.val/\pop8 b.val<=8/\st2 (st1 b.val) % 16<=4/\st2 (st1 b.val) / 16<=4:=by decide
end Go.A.Pk
end
section
namespace Go.A.Pk
variable {T:Nat->Option af}
theorem len8{α:Type}{l:List α}(h:l.length=8):∃a b c d e f g i,l=[a,b,c,d,e,f,g,i]:=by
 match l,h with
 |[a,b,c,d,e,f,g,i],_=>exact⟨a,b,c,d,e,f,g,i,rfl⟩
theorem rR{l:List Nat}(h:l.length=8)(c:Nat):byt (l.map λ_=>c)=c*72340172838076673:=by
 obtain⟨x0,x1,x2,x3,x4,x5,x6,x7,rfl⟩:=len8 h;show byt [c,c,c,c,c,c,c,c]=_;unfold byt;simp only[List.foldr];omega
theorem nD:∀{l:List Nat} (n:Nat),l.length=n->(∀b∈l,b<256)->byt l<2 ^ (8*n)
 |[],n,h,_=>by subst h;show 0<2 ^ 0;omega
 |b::l,n,h,hb=>by
  obtain⟨m,rfl⟩:∃m,n=m+1:=⟨n-1,by simp at h;omega⟩;have ih:=nD m (by simpa using h) λx hx=>hb x (List.mem_cons_of_mem _ hx);have h8:=hb b List.mem_cons_self;rw[fJ,show 8*(m+1)=8*m+8 by omega,Nat.pow_add];omega
theorem tD:byt []=0:=rfl
theorem mE{b:Nat}{l:List Nat}(h:b<256):byt (b::l) / 2 ^ 8=byt l:=by rw[fJ];omega
structure Rv (x a1 b1 c1 a2 b2 c2 c3 c4 c5 c6:Nat):Prop where
 s1:Nat.land (Nat.shiftRight x 1) 6148914691236517205=a1/\Nat.land x 6148914691236517205=b1/\a1+b1=c1/\a1+b1<U64/\c1<U64
 s2:Nat.land (Nat.shiftRight c1 2) 3689348814741910323=a2/\Nat.land c1 3689348814741910323=b2/\a2+b2=c2/\a2+b2<U64/\c2<U64
 s3:Nat.shiftRight c2 4+c2<U64/\Nat.land (Nat.shiftRight c2 4+c2) 1085102592571150095=c3/\c3<U64
 s4:c3+Nat.shiftRight c3 8=c4/\c4<U64
 s5:c4+Nat.shiftRight c4 16=c5/\c5<U64
 s6:c5+Nat.shiftRight c5 32=c6/\c6<9223372036854775808
 fin:c6 % 128=(bitsOf x).length
theorem LH(x:Nat):Nat.shiftRight x 0=x:=rfl
theorem Jj(x n:Nat):Nat.shiftRight x n=x / 2 ^ n:=Nat.shiftRight_eq_div_pow x n
theorem NF(b:Nat):Nat.land b 15=b % 16:=Nat.and_two_pow_sub_one_eq_mod b 4
theorem TU{x:Nat}(hx:x<U64):∃a1 b1 c1 a2 b2 c2 c3 c4 c5 c6,Rv x a1 b1 c1 a2 b2 c2 c3 c4 c5 c6:=by
 obtain⟨l,hl,hlb,rfl⟩:=Gp x 8 hx;have hb1:∀b∈l,st1 b<256/\st2 (st1 b)<256/\st2 (st1 b) % 16+st2 (st1 b) / 16=pop8 b/\pop8 b<=8/\st2 (st1 b) % 16<=4/\st2 (st1 b) / 16<=4:=λb hb=>Jp ⟨b,hlb b hb⟩;have m1:=jC (c:=85) (s:=1) (by omega) (by decide) l hlb;have m2:=jC (c:=85) (s:=0) (by omega) (by decide) l hlb;rw[rR hl]at m1 m2;rw[LH]at m2;have e1:byt (l.map λb=>Nat.land (Nat.shiftRight b 1) 85)+byt (l.map λb=>Nat.land (Nat.shiftRight b 0) 85)=byt (l.map st1):=xK _ _ l;have hl1:(l.map st1).length=8:=by simp[hl]
 have hlb1:∀b∈l.map st1,b<256:=λb hb=>by
  obtain⟨a,ha,rfl⟩:=List.mem_map.1 hb;exact(hb1 a ha).1
 have lt1:=nD 8 hl1 hlb1;have n1:=jC (c:=51) (s:=2) (by omega) (by decide) (l.map st1) hlb1;have n2:=jC (c:=51) (s:=0) (by omega) (by decide) (l.map st1) hlb1;rw[rR hl1]at n1 n2;rw[LH]at n2;have e2:byt ((l.map st1).map λb=>Nat.land (Nat.shiftRight b 2) 51)+byt ((l.map st1).map λb=>Nat.land (Nat.shiftRight b 0) 51)=byt ((l.map st1).map st2):=xK _ _ _;have hl2:((l.map st1).map st2).length=8:=by simp[hl]
 have hlb2:∀b∈(l.map st1).map st2,b<256:=λb hb=>by
  obtain⟨a1,ha1,rfl⟩:=List.mem_map.1 hb;obtain⟨a,ha,rfl⟩:=List.mem_map.1 ha1;exact(hb1 a ha).2.1
 have lt2:=nD 8 hl2 hlb2;have hc:∀b∈(l.map st1).map st2,b % 16<=4/\b / 16<=4:=λb hb=>by
  obtain⟨a1,ha1,rfl⟩:=List.mem_map.1 hb;obtain⟨a,ha,rfl⟩:=List.mem_map.1 ha1;exact(hb1 a ha).2.2.2.2
 have hsum:(((l.map st1).map st2).map λb=>b % 16+b / 16).sum=(bitsOf (byt l)).length:=by
  have hbb:(bitsOf (byt l)).length=(l.map pop8).sum:=zS 8 l hl hlb;rw[hbb,List.map_map,List.map_map];congr 1;apply List.map_congr_left;intro b hb;exact(hb1 b hb).2.2.1
 generalize(l.map st1).map st2=m at*;obtain⟨x0,x1,x2,x3,x4,x5,x6,x7,rfl⟩:=len8 hl2;have k0:=hc x0 (by simp);have k1:=hc x1 (by simp);have k2:=hc x2 (by simp);have k3:=hc x3 (by simp);have k4:=hc x4 (by simp);have k5:=hc x5 (by simp);have k6:=hc x6 (by simp);have k7:=hc x7 (by simp);have hm:byt [x0,x1,x2,x3,x4,x5,x6,x7]=x0+256*x1+65536*x2+16777216*x3+4294967296*x4+1099511627776*x5+281474976710656*x6+72057594037927936*x7:=by
  unfold byt;simp only[List.foldr];omega
 have hz:Nat.shiftRight (byt [x0,x1,x2,x3,x4,x5,x6,x7]) 4+byt [x0,x1,x2,x3,x4,x5,x6,x7]=byt [x0+x0 / 16+16*(x1 % 16),x1+x1 / 16+16*(x2 % 16),x2+x2 / 16+16*(x3 % 16),x3+x3 / 16+16*(x4 % 16),x4+x4 / 16+16*(x5 % 16),x5+x5 / 16+16*(x6 % 16),x6+x6 / 16+16*(x7 % 16),x7+x7 / 16]:=by
  rw[Jj,hm];unfold byt;simp only[List.foldr];omega
 have hzb:∀b∈[x0+x0 / 16+16*(x1 % 16),x1+x1 / 16+16*(x2 % 16),x2+x2 / 16+16*(x3 % 16),x3+x3 / 16+16*(x4 % 16),x4+x4 / 16+16*(x5 % 16),x5+x5 / 16+16*(x6 % 16),x6+x6 / 16+16*(x7 % 16),x7+x7 / 16],b<256:=by
  intro b hb;simp only[List.mem_cons,List.not_mem_nil,or_false]at hb;rcases hb with rfl|rfl|rfl|rfl|rfl|rfl|rfl|rfl<;>omega
 have p1:=jC (c:=15) (s:=0) (by omega) (by decide) _ hzb;rw[rR (by rfl),LH]at p1;have ltz:=nD 8 (by rfl) hzb
 have hy:byt ([x0+x0 / 16+16*(x1 % 16),x1+x1 / 16+16*(x2 % 16),x2+x2 / 16+16*(x3 % 16),x3+x3 / 16+16*(x4 % 16),x4+x4 / 16+16*(x5 % 16),x5+x5 / 16+16*(x6 % 16),x6+x6 / 16+16*(x7 % 16),x7+x7 / 16].map λb=>Nat.land (Nat.shiftRight b 0) 15)=
  byt [x0 % 16+x0 / 16,x1 % 16+x1 / 16,x2 % 16+x2 / 16,x3 % 16+x3 / 16,x4 % 16+x4 / 16,x5 % 16+x5 / 16,x6 % 16+x6 / 16,x7 % 16+x7 / 16]:=by
  simp only[List.map,LH,NF];have q:∀x y:Nat,x % 16<=4->x / 16<=4->(x+x / 16+16*(y % 16)) % 16=x % 16+x / 16:=λx y h1 h2=>by omega
  rw[q _ _ k0.1 k0.2,q _ _ k1.1 k1.2,q _ _ k2.1 k2.2,q _ _ k3.1 k3.2,q _ _ k4.1 k4.2,q _ _ k5.1 k5.2,q _ _ k6.1 k6.2,show(x7+x7 / 16) % 16=x7 % 16+x7 / 16 by omega]
 simp only[List.map,List.sum_cons,List.sum_nil]at hsum;have r0:x0 % 16+x0 / 16<=8:=by omega
 have r1:x1 % 16+x1 / 16<=8:=by omega
 have r2:x2 % 16+x2 / 16<=8:=by omega
 have r3:x3 % 16+x3 / 16<=8:=by omega
 have r4:x4 % 16+x4 / 16<=8:=by omega
 have r5:x5 % 16+x5 / 16<=8:=by omega
 have r6:x6 % 16+x6 / 16<=8:=by omega
 have r7:x7 % 16+x7 / 16<=8:=by omega
 clear hc hzb hlb2 hl2;generalize x0 % 16+x0 / 16=d0 at*;generalize x1 % 16+x1 / 16=d1 at*;generalize x2 % 16+x2 / 16=d2 at*;generalize x3 % 16+x3 / 16=d3 at*;generalize x4 % 16+x4 / 16=d4 at*;generalize x5 % 16+x5 / 16=d5 at*;generalize x6 % 16+x6 / 16=d6 at*;generalize x7 % 16+x7 / 16=d7 at*;clear k0 k1 k2 k3 k4 k5 k6 k7;have v4:byt [d0,d1,d2,d3,d4,d5,d6,d7] / 2 ^ 8=byt [d1,d2,d3,d4,d5,d6,d7]:=mE (by omega);have w4:byt [d0,d1,d2,d3,d4,d5,d6,d7]+byt [d1,d2,d3,d4,d5,d6,d7]=byt [d0+d1,d1+d2,d2+d3,d3+d4,d4+d5,d5+d6,d6+d7,d7]:=by
  simp only[fJ,tD];omega
 have v5:byt [d0+d1,d1+d2,d2+d3,d3+d4,d4+d5,d5+d6,d6+d7,d7] / 2 ^ 16=byt [d2+d3,d3+d4,d4+d5,d5+d6,d6+d7,d7]:=by
  rw[show 2 ^ 16=2 ^ 8*2 ^ 8 from rfl,←Nat.div_div_eq_div_mul,mE (by omega),mE (by omega)]
 have w5:byt [d0+d1,d1+d2,d2+d3,d3+d4,d4+d5,d5+d6,d6+d7,d7]+byt [d2+d3,d3+d4,d4+d5,d5+d6,d6+d7,d7]=byt [d0+d1+d2+d3,d1+d2+d3+d4,d2+d3+d4+d5,d3+d4+d5+d6,d4+d5+d6+d7,d5+d6+d7,d6+d7,d7]:=by
  simp only[fJ,tD];omega
 have v6:byt [d0+d1+d2+d3,d1+d2+d3+d4,d2+d3+d4+d5,d3+d4+d5+d6,d4+d5+d6+d7,d5+d6+d7,d6+d7,d7] / 2 ^ 32=byt [d4+d5+d6+d7,d5+d6+d7,d6+d7,d7]:=by
  rw[show 2 ^ 32=2 ^ 8*2 ^ 8*2 ^ 8*2 ^ 8 from rfl,←Nat.div_div_eq_div_mul,←Nat.div_div_eq_div_mul,←Nat.div_div_eq_div_mul,mE (by omega),mE (by omega),mE (by omega),mE (by omega)]
 have w6:byt [d0+d1+d2+d3,d1+d2+d3+d4,d2+d3+d4+d5,d3+d4+d5+d6,d4+d5+d6+d7,d5+d6+d7,d6+d7,d7]+byt [d4+d5+d6+d7,d5+d6+d7,d6+d7,d7]=byt [d0+d1+d2+d3+d4+d5+d6+d7,d1+d2+d3+d4+d5+d6+d7,d2+d3+d4+d5+d6+d7,d3+d4+d5+d6+d7,d4+d5+d6+d7,d5+d6+d7,d6+d7,d7]:=by
  simp only[fJ,tD];omega
 have lt3:byt [d0,d1,d2,d3,d4,d5,d6,d7]<U64:=nD 8 rfl (by intro b hb;simp only[List.mem_cons,List.not_mem_nil,or_false]at hb;omega);have lt4:byt [d0+d1,d1+d2,d2+d3,d3+d4,d4+d5,d5+d6,d6+d7,d7]<U64:=nD 8 rfl (by intro b hb;simp only[List.mem_cons,List.not_mem_nil,or_false]at hb;omega);have lt5:byt [d0+d1+d2+d3,d1+d2+d3+d4,d2+d3+d4+d5,d3+d4+d5+d6,d4+d5+d6+d7,d5+d6+d7,d6+d7,d7]<U64:=nD 8 rfl (by intro b hb;simp only[List.mem_cons,List.not_mem_nil,or_false]at hb;omega);have lt6:byt [d0+d1+d2+d3+d4+d5+d6+d7,d1+d2+d3+d4+d5+d6+d7,d2+d3+d4+d5+d6+d7,d3+d4+d5+d6+d7,d4+d5+d6+d7,d5+d6+d7,d6+d7,d7]<9223372036854775808:=by
  have h7:=nD (l:=[d0+d1+d2+d3+d4+d5+d6+d7,d1+d2+d3+d4+d5+d6+d7,d2+d3+d4+d5+d6+d7,d3+d4+d5+d6+d7,d4+d5+d6+d7,d5+d6+d7,d6+d7]) 7 rfl (by intro b hb;simp only[List.mem_cons,List.not_mem_nil,or_false]at hb;omega);simp only[fJ,tD]at h7⊢;omega
 have fin:byt [d0+d1+d2+d3+d4+d5+d6+d7,d1+d2+d3+d4+d5+d6+d7,d2+d3+d4+d5+d6+d7,d3+d4+d5+d6+d7,d4+d5+d6+d7,d5+d6+d7,d6+d7,d7] % 128=d0+d1+d2+d3+d4+d5+d6+d7:=by
  rw[fJ];generalize byt _=z;omega
 refine⟨_,_,_,_,_,_,byt [d0,d1,d2,d3,d4,d5,d6,d7],byt [d0+d1,d1+d2,d2+d3,d3+d4,d4+d5,d5+d6,d6+d7,d7],byt [d0+d1+d2+d3,d1+d2+d3+d4,d2+d3+d4+d5,d3+d4+d5+d6,d4+d5+d6+d7,d5+d6+d7,d6+d7,d7],byt [d0+d1+d2+d3+d4+d5+d6+d7,d1+d2+d3+d4+d5+d6+d7,d2+d3+d4+d5+d6+d7,d3+d4+d5+d6+d7,d4+d5+d6+d7,d5+d6+d7,d6+d7,d7],⟨m1,m2,e1,?_,lt1⟩,⟨n1,n2,e2,?_,lt2⟩,⟨?_,?_,lt3⟩,⟨?_,lt4⟩,⟨?_,lt5⟩,⟨?_,lt6⟩,?_⟩
 ·rw[e1];exact lt1
 ·rw[e2];exact lt2
 ·rw[hz];exact ltz
 ·rw[hz];exact p1.trans hy
 ·rw[Jj,v4,w4]
 ·rw[Jj,v5,w5]
 ·rw[Jj,v6,w6]
 ·rw[fin,←hsum];omega
abbrev Tab(h:Heap):Prop:=h.get 0=some (.cells (zZ.map λn=> .int .u8 (n:Nat)) false 1)
theorem Nq{h:Heap}{e:Env}(g:Tab h):ev h e (.global 0)=some (.pointer (some ⟨0,0,none⟩)):=by
 simp only[ev];rw[g]
theorem Tab.ext{h h':Heap}(g:Tab h)(x:Ext h h')(h2:0<h.next):Tab h':=(x.old 0 h2).trans g
theorem Hr{v:Nat}(hv:v<9223372036854775808):ah .and (.int .i64 (v:Nat)) (.int .i64 127)=some (.int .i64 ((v % 128:Nat):Int)):=by
 have e1:(BitVec.ofInt 64 ((v:Nat):Int)).toNat=v:=by rw[BitVec.ofInt_natCast,BitVec.toNat_ofNat];omega
 have e2:(BitVec.ofInt 64 (127:Int)).toNat=127:=by decide
 have e3:((BitVec.ofInt 64 ((v:Nat):Int))&&&(BitVec.ofInt 64 (127:Int))).toNat=v % 128:=by
  rw[BitVec.toNat_and,e1,e2];exact Nat.and_two_pow_sub_one_eq_mod v 7
 show arith .and .i64 (v:Nat) 127=_;have:arith .and .i64 (v:Nat) 127=some (.int .i64 (IntKind.i64.wrap ((BitVec.ofInt 64 ((v:Nat):Int))&&&(BitVec.ofInt 64 (127:Int))).toNat)):=rfl;rw[this,e3];have hw:IntKind.i64.wrap ((v % 128:Nat):Int)=((v % 128:Nat):Int):=by
  unfold IntKind.wrap;simp[IntKind.signed,IntKind.bits];omega
 rw[hw]
theorem KX(hp:aV T)(hf:T 127=some f254){h:Heap}(hr:Rdy h){x:Nat}(hx:x<U64):Pu T 127 [.int .u64 (x:Nat)] h (.int .i64 ((bitsOf x).length:Nat)):=by
 refine .of hp hf hr rfl ?_;obtain⟨a1,b1,c1,a2,b2,c2,c3,c4,c5,c6,⟨q1,q2,q3,q4,q5⟩,⟨p1,p2,p3,p4,p5⟩,⟨o1,o2,o3⟩,⟨n1,n2⟩,⟨m1,m2⟩,⟨l1,l2⟩,fin⟩:=TU hx;have sh:∀y n:Nat,y<U64->Nat.shiftRight y n<U64:=λy n hy=>Nat.lt_of_le_of_lt (by rw[Jj];exact Nat.div_le_self _ _) hy;have k1:ah .shr (.int .u64 (x:Nat)) (.int .u64 1)=some (.int .u64 ((Nat.shiftRight x 1:Nat):Int)):=sW (n:=1) (by omega);have k2:ah .and (.int .u64 ((Nat.shiftRight x 1:Nat):Int)) (.int .u64 6148914691236517205)=_:=qE (a:=Nat.shiftRight x 1) (b:=6148914691236517205) (sh _ _ hx) (by omega);have k3:ah .and (.int .u64 (x:Nat)) (.int .u64 6148914691236517205)=_:=qE (a:=x) (b:=6148914691236517205) hx (by omega);rw[q1]at k2;rw[q2]at k3;have k4:=rZ q4;rw[q3]at k4;have k5:ah .shr (.int .u64 (c1:Nat)) (.int .u64 2)=some (.int .u64 ((Nat.shiftRight c1 2:Nat):Int)):=sW (n:=2) (by omega);have k6:ah .and (.int .u64 ((Nat.shiftRight c1 2:Nat):Int)) (.int .u64 3689348814741910323)=_:=qE (a:=Nat.shiftRight c1 2) (b:=3689348814741910323) (sh _ _ q5) (by omega);have k7:ah .and (.int .u64 (c1:Nat)) (.int .u64 3689348814741910323)=_:=qE (a:=c1) (b:=3689348814741910323) q5 (by omega);rw[p1]at k6;rw[p2]at k7;have k8:=rZ p4;rw[p3]at k8;have k9:ah .shr (.int .u64 (c2:Nat)) (.int .u64 4)=some (.int .u64 ((Nat.shiftRight c2 4:Nat):Int)):=sW (n:=4) (by omega);have k10:=rZ o1;have k11:ah .and (.int .u64 ((Nat.shiftRight c2 4+c2:Nat):Int)) (.int .u64 1085102592571150095)=_:=qE (b:=1085102592571150095) o1 (by omega);rw[o2]at k11;have k12:ah .shr (.int .u64 (c3:Nat)) (.int .u64 8)=some (.int .u64 ((Nat.shiftRight c3 8:Nat):Int)):=sW (n:=8) (by omega);have k13:=rZ (a:=c3) (b:=Nat.shiftRight c3 8) (by rw[n1];exact n2);rw[n1]at k13;have k14:ah .shr (.int .u64 (c4:Nat)) (.int .u64 16)=some (.int .u64 ((Nat.shiftRight c4 16:Nat):Int)):=sW (n:=16) (by omega);have k15:=rZ (a:=c4) (b:=Nat.shiftRight c4 16) (by rw[m1];exact m2);rw[m1]at k15;have k16:ah .shr (.int .u64 (c5:Nat)) (.int .u64 32)=some (.int .u64 ((Nat.shiftRight c5 32:Nat):Int)):=sW (n:=32) (by omega);have k17:=rZ (a:=c5) (b:=Nat.shiftRight c5 32) (by rw[l1];omega);rw[l1]at k17;have k18:=Hr l2;rw[fin]at k18;have k19:=bJ (n:=(c6:Int)) (by omega) (by omega);clear q1 q2 q3 p1 p2 p3 o2 n1 m1 l1;refine Y40 ?_;refine Y12 ?_;refine aA (xy (by exact rfl) (by assumption)) ?_;refine Y4 ?_;exact ak hr.log rfl rfl
theorem wrap_u64(n:Int):IntKind.u64.wrap n=n % 18446744073709551616:=by
 unfold IntKind.wrap;simp[IntKind.signed,IntKind.bits]
theorem CD(n:Nat):fG .u64 (n:Int)=((n % 18446744073709551616:Nat):Int):=by
 by_cases h:n<18446744073709551616
 ·rw[mj h,Nat.mod_eq_of_lt h]
 ·have e:((n:Nat):Int)=Int.ofNat n:=rfl;rw[e];simp only[fG];rw[qG h,cond_false,wrap_u64];rfl
theorem Rl(hp:aV T)(hf:T 121=some f266){h:Heap}(hr:Rdy h)(hg:Tab h){x k m:Nat}(hx:x<U64)(hform:x=2 ^ k*(2*m+1)):Pu T 121 [.int .u64 (x:Nat)] h (.int .i64 (k:Nat)):=by
 refine .of hp hf hr rfl ?_;obtain⟨hk,hland⟩:=yb hform hx;have hx0:0<x:=by
  rw[hform];exact Nat.mul_pos (Nat.pow_pos (by omega)) (by omega)
 have k0:ah .eql (.int .u64 (x:Nat)) (.int .u64 0)=some (.bool false):=pN (by omega);have k1:ry .neg (.int .u64 (x:Nat))=some (.int .u64 ((2 ^ 64-x:Nat):Int)):=by
  show some (Value.int .u64 (fG .u64 (0-(x:Int))))=_;have:fG .u64 (0-(x:Int))=((2 ^ 64-x:Nat):Int):=by
   obtain⟨y,rfl⟩:∃y,x=y+1:=⟨x-1,by omega⟩;have e:(0-((y+1:Nat):Int))=Int.negSucc y:=by omega
   rw[e];simp only[fG];rw[qG (by omega),cond_false,wrap_u64,Int.negSucc_emod _ (by omega)];have:(y:Int) % 18446744073709551616=y:=Int.emod_eq_of_lt (by omega) (by unfold U64 at hx;omega);unfold U64 at hx;omega
  rw[this]
 have k2:=qE (a:=x) (b:=2 ^ 64-x) hx (by omega);rw[hland]at k2;have k3:ah .mul (.int .u64 ((2 ^ k:Nat):Int)) (.int .u64 285870213051353865)=some (.int .u64 (((2 ^ k*285870213051353865) % 18446744073709551616:Nat):Int)):=by
  show some (Value.int .u64 (fG .u64 (((2 ^ k:Nat):Int)*285870213051353865)))=_;rw[←CD];congr 2
 have k4:ah .shr (.int .u64 (((2 ^ k*285870213051353865) % 18446744073709551616:Nat):Int)) (.int .u64 58)=some (.int .u64 ((Nat.shiftRight ((2 ^ k*285870213051353865) % 18446744073709551616) 58:Nat):Int)):=sW (n:=58) (by omega);have hd:=Nl ⟨k,hk⟩;dsimp only at hd;have e0:((2 ^ k*285870213051353865) % 18446744073709551616)>>>58=Nat.shiftRight ((2 ^ k*285870213051353865) % 18446744073709551616) 58:=rfl;rw[e0]at hd;generalize Nat.shiftRight ((2 ^ k*285870213051353865) % 18446744073709551616) 58=j at*;have hj:j<64:=(List.getElem?_eq_some_iff.1 hd).1;have e1:aT (zZ.map λn=>Value.int .u8 (n:Nat)) (0+j*1)=some (.int .u8 (k:Nat)):=by
  rw[cA,Nat.zero_add,Nat.mul_one,List.getElem?_map,hd];rfl
 have k5:=bJ (n:=(k:Int)) (by omega) (by omega);have hg':h.get 0=some (.cells (zZ.map λn=> .int .u8 (n:Nat)) false 1):=hg;refine Y14 ?_;refine aA (FT (by exact rfl) (by assumption)) ?_;refine Y3 ?_;refine aA (lW (i:=j) (k:= .u64) (Nq hg) (by exact rfl) hj) ?_;refine aA (fq (by exact rfl) (by assumption) (by assumption)) ?_;refine aA (xy (by exact rfl) (by assumption)) ?_;refine Y3 ?_;exact ak hr.log rfl rfl
def inR(n a b:Int):Bool:=decide (a<=n/\n<=b)
theorem Qw(hp:aV T)(hf:T 122=some f215){h:Heap}(hr:Rdy h)(n a b:Int):Pu T 122 [.int .i64 n, .int .i64 a, .int .i64 b] h (.bool (inR n a b)):=by
 refine .of hp hf hr rfl ?_;unfold inR;by_cases h1:a<=n
 ·by_cases h2:n<=b
  ·rw[decide_eq_true ⟨h1,h2⟩];refine Y18 ?_;exact ak hr.log rfl rfl
  ·rw[decide_eq_false (λq=>h2 q.2)];refine Y18 ?_;exact ak hr.log rfl rfl
 ·rw[decide_eq_false (λq=>h1 q.1)];refine Y15 ?_;exact ak hr.log rfl rfl
theorem C9(hp:aV T)(hf:T 26=some f90){h:Heap}(hr:Rdy h){a:List Nat}(ha:IsS a):Pu T 26 [sv a] h (.bool (decide (a=s0))):=by
 refine .of hp hf hr rfl ?_;have k1:=bR ha.len;have k2:=aR ha.len;refine Y5 ?_;refine aA (cQ (by exact rfl) YG (by assumption) (by assumption)) ?_;refine aA (lE (by exact rfl)) ?_;refine aA (j0 (b:=s0) (by exact rfl) (by exact rfl) ha.len rfl) ?_;refine Y3 ?_;exact ak hr.log rfl rfl
structure Ce where
 x:Int
 y:Int
 z:Int
 deriving DecidableEq
def ceL(c:Ce):List Value:=[.int .i64 c.x, .int .i64 c.y, .int .i64 c.z]
def ceV(c:Ce):Value:= .agg (ceL c).toArray
def inG(c:Ce):Bool:=decide ((0<=c.x/\c.x<=7)/\(0<=c.y/\c.y<=7)/\0<=c.z/\c.z<=7)
theorem Ef(hp:aV T)(hf:T 76=some f126)(hm:T 122=some f215){h:Heap}(hr:Rdy h)(c:Ce):Pu T 76 [ceV c] h (.bool (inG c)):=by
 obtain⟨x,y,z⟩:=c;refine .of hp hf hr rfl ?_;have C:=λn=>Qw hp hm (.of (hr.wf.push (.cells (cellsOf (ceV ⟨x,y,z⟩)) true 1))) n 0 7;unfold inG ceV ceL at*;dsimp only at C⊢;refine Y8 ?_;refine FW.pu (C x) ?_;by_cases h1:0<=x/\x<=7
 ·rw[show inR x 0 7=true from decide_eq_true h1];refine Y7 ?_;refine FW.pu (C y) ?_;by_cases h2:0<=y/\y<=7
  ·rw[show inR y 0 7=true from decide_eq_true h2];refine Y8 ?_;refine FW.pu (C z) ?_;by_cases h3:0<=z/\z<=7
   ·rw[show inR z 0 7=true from decide_eq_true h3,decide_eq_true ⟨h1,h2,h3⟩];clear C;refine Y4 ?_;exact ak hr.log rfl rfl
   ·rw[show inR z 0 7=false from decide_eq_false h3,decide_eq_false λq=>h3 q.2.2];clear C;refine Y4 ?_;exact ak hr.log rfl rfl
  ·rw[show inR y 0 7=false from decide_eq_false h2,decide_eq_false λq=>h2 q.2.1];clear C;refine Y9 ?_;exact ak hr.log rfl rfl
 ·rw[show inR x 0 7=false from decide_eq_false h1,decide_eq_false λq=>h1 q.1];clear C;refine Y13 ?_;exact ak hr.log rfl rfl
theorem vZ(hp:aV T)(hf:T 181=some f225){h:Heap}(hr:Rdy h)(c:Ce):Pu T 181 [ceV c] h (.bool (inG c)):=by
 obtain⟨x,y,z⟩:=c;refine .of hp hf hr rfl ?_;unfold inG ceV ceL;dsimp only;by_cases h0:0<=x
 ·skip;by_cases h1:x<=7
  ·skip;by_cases h2:0<=y
   ·skip;by_cases h3:y<=7
    ·skip;by_cases h4:0<=z
     ·skip;by_cases h5:z<=7
      ·rw[decide_eq_true ⟨⟨h0,h1⟩,⟨h2,h3⟩,h4,h5⟩];refine Y40 ?_;refine Y11 ?_;exact ak hr.log rfl rfl
      ·rw[decide_eq_false λq=>h5 q.2.2.2];refine Y40 ?_;refine Y11 ?_;exact ak hr.log rfl rfl
     ·rw[decide_eq_false λq=>h4 q.2.2.1];refine Y40 ?_;refine Y8 ?_;exact ak hr.log rfl rfl
    ·rw[decide_eq_false λq=>h3 q.2.1.2];refine Y40 ?_;refine Y5 ?_;exact ak hr.log rfl rfl
   ·rw[decide_eq_false λq=>h2 q.2.1.1];refine Y40 ?_;refine Y2 ?_;exact ak hr.log rfl rfl
  ·rw[decide_eq_false λq=>h1 q.1.2];refine Y39 ?_;exact ak hr.log rfl rfl
 ·rw[decide_eq_false λq=>h0 q.1.1];refine Y36 ?_;exact ak hr.log rfl rfl
theorem BP{n:Nat}{k:IntKind}(hn:n<64):ah .shl (.int .u64 1) (.int k (n:Nat))=some (.int .u64 ((2 ^ n:Nat):Int)):=by
 have e1:((n:Nat):Int)=Int.ofNat n:=rfl;have e2:(1:Int)=Int.ofNat 1:=rfl;rw[e1,e2];have:ah .shl (.int .u64 (Int.ofNat 1)) (.int k (Int.ofNat n))=some (.int .u64 (.ofNat (Nat.mod (Nat.shiftLeft 1 (Nat.min n 64)) 18446744073709551616))):=rfl;rw[this,show Nat.min n 64=n from Nat.min_eq_left (by omega)];have h2:Nat.shiftLeft 1 n=2 ^ n:=by
  have:=Nat.shiftLeft_eq 1 n;rw[Nat.one_mul]at this;exact this
 have h3:2 ^ n<18446744073709551616:=(show 2 ^ n<2 ^ 64 from Nat.pow_lt_pow_right (by omega) hn);rw[h2,show Nat.mod (2 ^ n) 18446744073709551616=2 ^ n from Nat.mod_eq_of_lt h3];rfl
theorem qS{n:Nat}(hn:n<64):2 ^ n<U64:=(show 2 ^ n<2 ^ 64 from Nat.pow_lt_pow_right (by omega) hn)
theorem G7{x n:Nat}:Nat.land x (2 ^ n)=if Nat.testBit x n then 2 ^ n else 0:=by
 apply Nat.eq_of_testBit_eq;intro i;show Nat.testBit (x&&&2 ^ n) i=_;rw[Nat.testBit_and,Nat.testBit_two_pow];by_cases h:n=i
 ·subst h;cases hb:Nat.testBit x n<;>simp
 ·cases hb:Nat.testBit x n<;>simp[h]
def eC(z i:Nat):Ce:=⟨(i % 8:Nat),(i / 8:Nat),(z:Nat)⟩
theorem iB{c:Ce}(h:inG c=true):∃z i:Nat,z<8/\i<64/\c=eC z i:=by
 obtain⟨x,y,z⟩:=c;have h:=of_decide_eq_true h;dsimp only at h;refine⟨z.toNat,(8*y+x).toNat,by omega,by omega,?_⟩;unfold eC;rw[Ce.mk.injEq];refine⟨by omega,by omega,by omega⟩
theorem GU{z i:Nat}(hz:z<8)(hi:i<64):inG (eC z i)=true:=by
 apply decide_eq_true;unfold eC;dsimp only;omega
theorem Nc(hp:aV T)(hf:T 77=some f127){h:Heap}(hr:Rdy h){z i:Nat}(hi:i<64):Pu T 77 [ceV (eC z i)] h (.int .u64 ((2 ^ i:Nat):Int)):=by
 refine .of hp hf hr rfl ?_;have k1:ah .mul (.int .i64 8) (.int .i64 ((i / 8:Nat):Int))=some (.int .i64 (8*((i / 8:Nat):Int))):=Dn (by omega) (by omega);have k2:ah .add (.int .i64 (8*((i / 8:Nat):Int))) (.int .i64 ((i % 8:Nat):Int))=some (.int .i64 ((i:Nat):Int)):=iD (by rw[bJ]<;>omega);have k3:=BP (k:= .i64) hi;unfold ceV ceL eC;dsimp only;refine Y15 ?_;exact ak hr.log rfl rfl
def ff(s:List Nat)(c:Ce):Bool:=inG c&&Nat.testBit (s.getD c.z.toNat 0) (8*c.y.toNat+c.x.toNat)
theorem ij{s:List Nat}{z i:Nat}(hz:z<8)(hi:i<64):ff s (eC z i)=Nat.testBit (s.getD z 0) i:=by
 unfold ff;rw[GU hz hi,Bool.true_and];unfold eC;dsimp only;congr 1;omega
theorem jI{s:List Nat}{i:Nat}(hi:i<s.length):s[i]? =some (s.getD i 0):=by
 rw[List.getD_eq_getElem?_getD,List.getElem?_eq_getElem hi];rfl
theorem IsS.jJ{s:List Nat}(hs:IsS s)(i:Nat):s.getD i 0<U64:=by
 rw[List.getD_eq_getElem?_getD];by_cases hi:i<s.length
 ·rw[List.getElem?_eq_getElem hi];exact hs.lt _ (List.getElem_mem hi)
 ·rw[List.getElem?_eq_none (by omega)];show 0<U64;decide
theorem KA{x n:Nat}:(decide (Nat.land x (2 ^ n)≠0))=Nat.testBit x n:=by
 rw[G7];cases hb:Nat.testBit x n
 ·simp
 ·have:0<2 ^ n:=Nat.pow_pos (by omega);simp
end Go.A.Pk
end
section
namespace Go.A
variable {T:Nat->Option af}
def EC(g:Nat)(vs:List Value)(n:Nat):Heap:=⟨[(g, .cells vs false 1)],n,[]⟩
theorem nX{g n:Nat}{vs:List Value}(x:Nat):(EC g vs n).get x=if x=g then some (.cells vs false 1)else none:=by
 show eZ [(g, .cells vs false 1)] x=_;simp only[eZ,cond_eq_ite,beq_eq,decide_eq_true_eq];by_cases h:g=x
 ·rw[if_pos h,if_pos h.symm]
 ·rw[if_neg h,if_neg (Ne.symm h)]
theorem R.EC{P:Program}{μ:Mu}{h:Heap}{w:World}(hR:R P μ h w){g n:Nat}{vs:List Value}(hg:h.get g=some (.cells vs false 1))(hs:cU vs=true)(hn:P.globals.size<=n)(hgn:g<n):
 R P (λb=>if b=g then μ g else Option.none) (A.EC g vs n) w:=by
 refine⟨hn,λx o hx ho=> ?_,λb o hb=> ?_,λb o hb=> ?_,λb k hb=> ?_,λb b' o o' k k' hne hb hb'=> ?_⟩
 ·rw[nX]at ho;split at ho
  ·rename_i e;subst e;cases ho;obtain⟨k,a,b,c,x⟩:=hR.j8 _ _ hx hg;exact⟨k,by rw[if_pos rfl];exact a,b,c,x⟩
  ·cases ho
 ·rw[nX]at hb;split at hb
  ·rename_i e;subst e;cases hb;intro k hk;replace hk:(if b=b then μ b else Option.none)=some k:=hk;rw[if_pos rfl]at hk;obtain⟨h0,c,el,fz,z1,z2,z3,z4,z5⟩:=hR.obj _ _ hg k hk;refine⟨h0,c,el,fz,z1,z2,z3,λi hi=> ?_,z5⟩;obtain⟨v',y1,y2⟩:=z4 i hi;have hsc:=zn hs i hi;exact⟨v',y1,by rw[(VR.jV hsc).2 _ y2];exact(VR.jV hsc).1⟩
  ·cases hb
 ·rw[nX]at hb;split at hb
  ·rename_i e;subst e;exact hgn
  ·cases hb
 ·replace hb:(if b=g then μ g else Option.none)=some k:=hb;split at hb
  ·rename_i e;subst e;exact⟨hgn,(hR.dom _ _ hb).2⟩
  ·cases hb
 ·rw[nX]at hb hb';split at hb
  ·rename_i e;split at hb'
   ·rename_i e';exact(hne (e.trans e'.symm)).elim
   ·cases hb'
  ·cases hb
theorem LR.BS{μ:Mu}:∀{args args':List Value},(∀a∈args,cT a=true)->LR μ args args'→args'=args
 |[],_,_,h=>by cases h;rfl
 |a::l,_,hn,h=>by
  cases h with
  |cons h1 h2=>rw[(VR.cT (hn a List.mem_cons_self)).2 _ h1,LR.BS (λx hx=>hn x (List.mem_cons_of_mem _ hx)) h2]
theorem LR.uN{μ:Mu}:∀{args:List Value},(∀a∈args,cT a=true)->LR μ args args
 |[],_=> .nil
 |a::l,hn=> .cons (VR.cT (hn a List.mem_cons_self)).1 (LR.uN λx hx=>hn x (List.mem_cons_of_mem _ hx))
theorem IC{P:Program}(hT:ew P T){f g n:Nat}{vs:List Value}{fn:Func}{p:List Value→Heap→Option (Value×Heap)}(hf:P.funcs[f]? =some fn)(hname:fn.name≠ "runtime.NumGoroutine")(hb:fn.body.isSome=true)(hn:P.globals.size≤n)(hgn:g<n)(hnc:gT (T f)=false)(hs:cU vs=true)
 (H:∀args v h h',p args h=some (v,h')->h'=h/\h.get g=some (.cells vs false 1)/\(∀a∈args,cT a=true)/\cT v=true/\CW T f args (EC g vs n) λr _=>r= .ret v):Bp P f p:=by
 intro args h u h' hp _;obtain⟨rfl,hg,ha,hu,r,h1,⟨m,hr⟩,rfl⟩:=H _ _ _ _ hp;refine⟨.refl _ _,λμ w args' hR hargs=> ?_⟩;rw[hargs.BS ha];have hrun:=hr m (Nat.le_refl _);have:=nj hT hrun rfl hnc (hR.EC hg hs hn hgn) (args':=args) (.uN ha);refine o9 hf hname hb this λe w' hq=> ?_;obtain⟨μ',q1,q2,q3⟩:=hq;cases e with
 |returned v'=>
  have hv':VR μ' u v':=q1;rw[(VR.cT hu).2 _ hv'];have hk:∀r,r<w.heap.size->w'.heap[r]? =w.heap[r]? :=λr hr=>q3.keep r hr λ⟨b,o,k,k1,k2,k3,_⟩=>by
   rw[nX]at k1;split at k1
   ·cases k1;cases k3
   ·cases k1
  exact⟨μ,(VR.cT hu).1,(hR.grow q3.le hk q3.same).1,(hR.grow q3.le hk q3.same).2⟩
 |panicked _=>exact q1.elim
 |outgrown=>exact q1.elim
theorem IB{P:Program}(hT:ew P T){f n:Nat}{fn:Func}{p:List Value→Heap→Option (Value×Heap)}(hf:P.funcs[f]? =some fn)(hname:fn.name≠ "runtime.NumGoroutine")(hb:fn.body.isSome=true)(hn:P.globals.size≤n)(hnc:gT (T f)=false)
 (H:∀args v h h',p args h=some (v,h')->h'=h/\(∀a∈args,cT a=true)/\cT v=true/\CW T f args ⟨[],n,[]⟩ λr _=>r= .ret v):Bp P f p:=by
 intro args h u h' hp _;obtain⟨rfl,ha,hu,r,h1,⟨m,hr⟩,rfl⟩:=H _ _ _ _ hp;refine⟨.refl _ _,λμ w args' hR hargs=> ?_⟩;rw[hargs.BS ha];have hrun:=hr m (Nat.le_refl _);have:=nj hT hrun rfl hnc (R.none (P:=P) (w:=w) hn) (args':=args) (.uN ha);refine o9 hf hname hb this λe w' hq=> ?_;obtain⟨μ',q1,q2,q3⟩:=hq;cases e with
 |returned v'=>
  have hv':VR μ' u v':=q1;rw[(VR.cT hu).2 _ hv'];have hk:∀r,r<w.heap.size->w'.heap[r]? =w.heap[r]? :=λr hr=>q3.keep r hr λ⟨b,o,k,k1,_⟩=>by cases k1
  exact⟨μ,(VR.cT hu).1,(hR.grow q3.le hk q3.same).1,(hR.grow q3.le hk q3.same).2⟩
 |panicked _=>exact q1.elim
 |outgrown=>exact q1.elim
end Go.A
end
section
namespace Go.A.Pk
variable {T:Nat->Option af}
def tL:List Value->Option (List Nat)
 |[]=>some []
 | .int .u64 (.ofNat n)::l=>bif Nat.blt n 18446744073709551616 then match tL l with
  |some m=>some (n::m)
  |none=>none
   else none
 |_=>none
def LJ(v:Value):Option (List Nat):=
 match v with
 | .agg c=>match tL c.toList with
   |some l=>bif Nat.beq (bK l) 8 then some l else none
   |none=>none
 |_=>none
theorem uR:∀{l:List Value} {m:List Nat},tL l=some m->l=us m/\∀x∈m,x<U64
 |[],m,h=>by cases h;exact⟨rfl,λ_ h=>by simp at h⟩
 |v::l,m,h=>by
  unfold tL at h;split at h
  ·rename_i heq;cases heq
  ·rename_i n l' heq;cases heq;simp only[cond_eq_ite,blt_eq,Option.ite_none_right_eq_some,decide_eq_true_eq]at h;obtain⟨hn,h⟩:=h;split at h
   ·rename_i m' hm;cases h;obtain⟨e,hl⟩:=uR hm;refine⟨by rw[e];rfl,λx hx=> ?_⟩;rcases List.mem_cons.1 hx with rfl|hx
    ·exact hn
    ·exact hl x hx
   ·cases h
  ·cases h
theorem DI{v:Value}{s:List Nat}(h:LJ v=some s):v=sv s/\IsS s:=by
 unfold LJ at h;split at h
 ·rename_i c;split at h
  ·rename_i l hl;simp only[cond_eq_ite,beq_eq,bM,Option.ite_none_right_eq_some,decide_eq_true_eq]at h;obtain⟨h8,h⟩:=h;cases h;obtain⟨e,hlt⟩:=uR hl;refine⟨?_,h8,hlt⟩;show Value.agg c= .agg (us s).toArray;rw[←e]
  ·cases h
 ·cases h
def inB:List Nat->List Nat->Bool
 |[],[]=>true
 |x::xs,y::ys=>bif Nat.beq (Nat.land x y) x then inB xs ys else false
 |_,_=>false
theorem GS:∀{a b:List Nat},a.length=b.length->inB a b=sIn a b
 |[],[],_=>rfl
 |x::xs,y::ys,h=>by
  have ih:=GS (a:=xs) (b:=ys) (by simpa using h);simp only[inB,ih,cond_eq_ite,beq_eq,decide_eq_true_eq];unfold sIn oq qZ;simp only[List.zipWith_cons_cons,List.cons.injEq];by_cases hx:Nat.land x y=x
  ·simp[hx]
  ·simp[hx]
 |[],_::_,h=>by simp at h
 |_::_,[],h=>by simp at h
def pIn:List Value->Heap->Option (Value×Heap)
 |[a,b],h=>match LJ a,LJ b with
  |some x,some y=>some (.bool (inB x y),h)
  |_,_=>none
 |_,_=>none
theorem K9(hp:aV T)(hf:T 39=some f35)(hm:T 73=some f121){n:Nat}:∀args v h h',pIn args h=some (v,h')->h'=h/\(∀a∈args,cT a=true)/\cT v=true/\CW T 39 args ⟨[],n,[]⟩ λr _=>r= .ret v:=by
 intro args v h h' hq;unfold pIn at hq;split at hq
 ·rename_i a b;split at hq
  ·rename_i x y hx hy;cases hq;obtain⟨rfl,sx⟩:=DI hx;obtain⟨rfl,sy⟩:=DI hy;refine⟨rfl,λz hz=> ?_,rfl,?_⟩
   ·simp only[List.mem_cons,List.not_mem_nil,or_false]at hz;rcases hz with rfl|rfl<;>exact jk _
   ·rw[GS (sx.len.trans sy.len.symm)];refine CW.mono (Nx hp hf hm (h:=⟨[],n,[]⟩) ⟨⟨by simp,by simp⟩,rfl⟩ sx sy) λr h hq=>hq.1
  ·cases hq
 ·cases hq
end Go.A.Pk
end
