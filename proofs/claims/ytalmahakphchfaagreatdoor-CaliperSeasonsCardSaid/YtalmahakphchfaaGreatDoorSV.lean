/- Solids. -/
import Derived.Test.YtalmahakphchfaaGreatDoorSF
import Derived.Test.YtalmahakphchfaaGreatDoorSD
set_option linter.all false
section
set_option maxRecDepth 100000
namespace Go.A.Pk
variable {T:Nat→Option af}
abbrev U64:Nat:=18446744073709551616
def us(pl:List Nat):List Value:=pl.map fun n=> .int .u64 (n:Nat)
def sv(pl:List Nat):Value:= .agg (us pl).toArray
structure IsS (s:List Nat):Prop where
 len:s.length=8
 lt:∀x∈s,x<U64
theorem aG(l:List Nat):(us l).length=l.length:=by simp[us]
theorem Ci:∀l:List Nat,cV (us l)=true
 |[]=>rfl
 |x::l=>by
  show cV (.int .u64 (x:Nat)::us l)=true
  simp only[cV,lM,jl,cond_true]
  exact Ci l
theorem iA(s:List Nat):cT (sv s)=true:=by
 show flat (.agg (us s).toArray)=true
 simp only[flat]
 exact Ci s
theorem cF:∀l:List Nat,dG (us l)=true
 |[]=>rfl
 |x::l=>by
  show dG (.int .u64 (x:Nat)::us l)=true
  simp only[dG]
  exact cF l
theorem pE{pl:List Nat}{i n:Nat}(hi:pl[i]? =some n):bD (us pl) (0+i*1)=some (.int .u64 (n:Nat)):=by
 rw[cG,Nat.mul_one,Nat.zero_add,us,List.getElem?_map,hi];rfl
theorem dh{s:List Nat}(h:s.length=8):bT 8 (bS 0 (us s))=us s:=by
 rw[dy,cK,List.drop_zero,List.take_of_length_le (by rw[aG];omega)]
theorem bU{s:List Nat}(h:s.length=8):Nat.beq (bO (us s)) 8=true:=by
 rw[bN,aG,h];rfl
theorem xy{l:List Nat}{i n:Nat}:us (l.set i n)=(us l).set (0+i*1) (.int .u64 (n:Nat)):=by
 rw[Nat.zero_add,Nat.mul_one,us,us,List.map_set]
def uz(f:Nat→Nat→Nat)(a b:List Nat):List Nat:=List.zipWith f a b
theorem BR{x y:Nat}(hx:x<U64):Nat.land x y<U64:=Nat.lt_of_le_of_lt (Nat.and_le_left (n:=x) (m:=y)) hx
theorem Fm{x y:Nat}(hx:x<U64)(hy:y<U64):Nat.lor x y<U64:=Nat.or_lt_two_pow (n:=64) hx hy
def pZ(f:Nat→Nat→Nat)(a b:List Nat)(i:Nat):List Nat:=List.zipWith f (a.take i) (b.take i)++a.drop i
theorem qS(f:Nat→Nat→Nat)(a b:List Nat):pZ f a b 0=a:=by simp[pZ]
theorem tw{f:Nat→Nat→Nat}{a b:List Nat}(ha:a.length=8)(hb:b.length=8):pZ f a b 8=uz f a b:=by
 rw[pZ,List.take_of_length_le (by omega),List.take_of_length_le (by omega),List.drop_eq_nil_of_le (by omega),List.append_nil,uz]
theorem tA{f:Nat→Nat→Nat}{a b:List Nat}{i:Nat}(ha:a.length=8)(hb:b.length=8)(hi:i≤8):(pZ f a b i).length=8:=by
 simp[pZ,ha,hb];omega
theorem wm{f:Nat→Nat→Nat}{a b:List Nat}{i x:Nat}(ha:a.length=8)(hb:b.length=8)(hi:a[i]? =some x):(pZ f a b i)[i]? =some x:=by
 have hi8:i<8:=by rw[←ha];exact(List.getElem?_eq_some_iff.1 hi).1
 rw[pZ,List.getElem?_append_right (by simp[ha,hb];omega)]
 simp[ha,hb,Nat.min_eq_left (Nat.le_of_lt hi8),hi]
theorem tB{f:Nat→Nat→Nat}{a b:List Nat}{i x y:Nat}(ha:a.length=8)(hb:b.length=8)(hx:a[i]? =some x)(hy:b[i]? =some y):(pZ f a b i).set i (f x y)=pZ f a b (i+1):=by
 have hia:i<a.length:=(List.getElem?_eq_some_iff.1 hx).1
 have hib:i<b.length:=(List.getElem?_eq_some_iff.1 hy).1
 apply List.ext_getElem?
 intro j
 have hl:(List.zipWith f (a.take i) (b.take i)).length=i:=by simp;omega
 have hl2:(List.zipWith f (a.take (i+1)) (b.take (i+1))).length=i+1:=by simp;omega
 rw[List.getElem?_set]
 unfold pZ
 by_cases h1:i=j
 ·subst h1
  rw[if_pos rfl,if_pos (by simp;omega)]
  rw[List.getElem?_append_left (by omega),List.getElem?_zipWith,List.getElem?_take_of_lt (by omega),List.getElem?_take_of_lt (by omega),hx,hy]
 ·rw[if_neg h1]
  by_cases h2:j<i
  ·rw[List.getElem?_append_left (by omega),List.getElem?_append_left (by omega),List.getElem?_zipWith,List.getElem?_zipWith]
   simp only[List.getElem?_take_of_lt h2,List.getElem?_take_of_lt (show j<i+1 by omega)]
  ·rw[List.getElem?_append_right (by omega),List.getElem?_append_right (by omega),hl,hl2,List.getElem?_drop,List.getElem?_drop]
   congr 1;omega
theorem IsS.map{f:Nat→Nat→Nat}{a b:List Nat}(ha:IsS a)(hb:IsS b)(hf:∀x y,x<U64→y<U64→f x y<U64):IsS (uz f a b):=by
 refine⟨by simp[uz,ha.len,hb.len],fun z hz=> ?_⟩
 obtain⟨i,hi,rfl⟩:=List.mem_iff_getElem.1 hz
 simp only[uz,List.getElem_zipWith]
 exact hf _ _ (ha.lt _ (List.getElem_mem _)) (hb.lt _ (List.getElem_mem _))
def mI(a b:List Nat):List Nat:=uz Nat.lor a b
def kP(a b:List Nat):List Nat:=uz Nat.land a b
theorem IsS.join{a b:List Nat}(ha:IsS a)(hb:IsS b):IsS (mI a b):=ha.map hb fun _ _ h1 h2=>Fm h1 h2
theorem IsS.meet{a b:List Nat}(ha:IsS a)(hb:IsS b):IsS (kP a b):=ha.map hb fun _ _ h1 _=>BR h1
theorem Iu(hp:bI T)(hf:T 73=some f121){h:Heap}(hr:Rdy h){a b:List Nat}(ha:IsS a)(hb:IsS b):Pu T 73 [sv a,sv b] h (sv (kP a b)):=by
 refine .of hp hf hr (iA _) ?_
 refine y4 ?_;refine yB ?_;refine yB ?_;refine ah (cZ) ?_;refine y3 ?_;refine an ?_;refine y4 ?_
 refine yM ?_;refine y3 ?_;refine aO ?_
 refine dL (fun m e ds h'=>∃i:Nat,i≤8∧m=8-i∧e=[(2, .pointer (some ⟨h.next,0,none⟩)),(3, .pointer (some ⟨h.next+1,0,none⟩)),(4, .pointer (some ⟨h.next+2,0,none⟩)),(6, .int .i64 (i:Nat))]∧ds=[]∧h'.log=[]∧h'.next=h.next+3∧
  h'.get h.next=some (.cells (us (pZ Nat.land a b i)) true 1)∧h'.get (h.next+1)=some (.cells (us b) true 1)∧h'.get (h.next+2)=some (.cells (aW 8 (.int .u64 0)) true 1))
  ⟨0,by omega,rfl,rfl,rfl,hr.log,rfl,?_,?_,?_⟩ ?_
 ·rw[qS];(simp(disch:=first|omega|(simp only[z1,z2];omega))only[z3,z4,z5,z6,z7,z1,z2];exact rfl)
 ·(simp(disch:=first|omega|(simp only[z1,z2];omega)|(simp only[z1,z2];done)|fail)only[Go.A.z8,z4,z5,z9,z7,z1,z2];exact rfl)
 ·(simp(disch:=first|omega|(simp only[z1,z2];omega)|(simp only[z1,z2];done)|fail)only[Go.A.z8,z4,z5,z9,z7,z1,z2];done)
 rintro m e ds h1 ⟨i,hin,rfl,rfl,rfl,hl,hn,g1,g2,g3⟩
 by_cases hlt:i<8
 ·obtain⟨x,hx⟩:∃x,a[i]? =some x:=⟨a[i]'(by rw[ha.len];exact hlt),List.getElem?_eq_getElem _⟩
  obtain⟨y,hy⟩:∃x,b[i]? =some x:=⟨b[i]'(by rw[hb.len];exact hlt),List.getElem?_eq_getElem _⟩
  have e1:=pE (wm (f:=Nat.land) ha.len hb.len hx)
  have e2:=pE hy
  have o1:=pY (ha.lt _ (List.mem_of_getElem? hx)) (hb.lt _ (List.mem_of_getElem? hy))
  have l1:=tA (f:=Nat.land) ha.len hb.len hin
  refine y4 ?_;refine yt ?_;refine y3 ?_;refine an ?_;refine yY ?_;refine bA ?_;refine bH ?_;refine an ?_;refine aO ?_;refine y4 ?_;refine yM ?_;refine yM ?_;refine y3 ?_;refine dn ?_;refine qM ?_
  refine qJ ?_;refine qK ?_;refine qM ?_
  refine qJ ?_;refine qK ?_
  refine qW ?_;refine qJ ?_
  refine rA rfl rfl rfl (by exact rfl) (by exact rfl) (by exact rfl) (by assumption) (by exact rfl) (by exact rfl) (by(simp only[aG];omega)) (by omega) (by omega) (by(repeat apply aT rfl);exact cO) ?_;refine dH ?_
  refine y1 ?_;refine fF ?_;refine bH ?_;refine aq ?_;refine iI ?_;refine yM ?_;refine y3 ?_
  refine⟨8-(i+1),by omega,i+1,by omega,rfl,rfl,rfl,?_,?_,?_,?_,?_⟩
  ·rw[Heap.aL (Nat.le_refl _)];exact hl
  ·exact hn
  ·rw[z6,g1,z7]
   rw[←tB ha.len hb.len hx hy,xy]
  ·rw[z5 (by omega)];exact g2
  ·rw[z5 (by omega)];exact g3
 ·obtain rfl:i=8:=by omega
  rw[tw ha.len hb.len]at g1
  have k1:=dh (ha.meet hb).len
  have k2:=bU (ha.meet hb).len
  have k3:=(ha.meet hb).len
  refine y4 ?_;refine yf ?_;refine y3 ?_;refine an ?_;refine yX ?_;refine dz ?_;refine ek ?_;refine ek ?_;refine iY ?_;refine bH ?_
  refine y4 ?_;refine yV ?_;refine ah (bQ (by exact rfl) (by exact rfl) (by assumption) (by(simp only[aG];assumption)) (by exact rfl) (by exact cF _)) ?_;refine y3 ?_;refine aM ?_
  refine aD ?_ (cW (own:=true) (s:=1) rfl ?_ k1 k2 rfl) rfl
  ·rw[Heap.aL (by omega)];exact hl
  ·(simp(disch:=first|omega|(simp only[z1,z2];omega))only[z3,z4,z5,z6,z7,z1,z2,g2,g3,g1];done)
theorem GS(hp:bI T)(hf:T 33=some f118){h:Heap}(hr:Rdy h){a b:List Nat}(ha:IsS a)(hb:IsS b):Pu T 33 [sv a,sv b] h (sv (mI a b)):=by
 refine .of hp hf hr (iA _) ?_
 refine y4 ?_;refine yB ?_;refine yB ?_;refine ah (cZ) ?_;refine y3 ?_;refine an ?_;refine y4 ?_
 refine yM ?_;refine y3 ?_;refine aO ?_
 refine dL (fun m e ds h'=>∃i:Nat,i≤8∧m=8-i∧e=[(2, .pointer (some ⟨h.next,0,none⟩)),(3, .pointer (some ⟨h.next+1,0,none⟩)),(4, .pointer (some ⟨h.next+2,0,none⟩)),(5, .int .i64 (i:Nat))]∧ds=[]∧h'.log=[]∧h'.next=h.next+3∧
  h'.get h.next=some (.cells (us (pZ Nat.lor a b i)) true 1)∧h'.get (h.next+1)=some (.cells (us b) true 1)∧h'.get (h.next+2)=some (.cells (aW 8 (.int .u64 0)) true 1))
  ⟨0,by omega,rfl,rfl,rfl,hr.log,rfl,?_,?_,?_⟩ ?_
 ·rw[qS];(simp(disch:=first|omega|(simp only[z1,z2];omega))only[z3,z4,z5,z6,z7,z1,z2];exact rfl)
 ·(simp(disch:=first|omega|(simp only[z1,z2];omega)|(simp only[z1,z2];done)|fail)only[Go.A.z8,z4,z5,z9,z7,z1,z2];exact rfl)
 ·(simp(disch:=first|omega|(simp only[z1,z2];omega)|(simp only[z1,z2];done)|fail)only[Go.A.z8,z4,z5,z9,z7,z1,z2];done)
 rintro m e ds h1 ⟨i,hin,rfl,rfl,rfl,hl,hn,g1,g2,g3⟩
 by_cases hlt:i<8
 ·obtain⟨x,hx⟩:∃x,a[i]? =some x:=⟨a[i]'(by rw[ha.len];exact hlt),List.getElem?_eq_getElem _⟩
  obtain⟨y,hy⟩:∃x,b[i]? =some x:=⟨b[i]'(by rw[hb.len];exact hlt),List.getElem?_eq_getElem _⟩
  have e1:=pE (wm (f:=Nat.lor) ha.len hb.len hx)
  have e2:=pE hy
  have o1:=NY (ha.lt _ (List.mem_of_getElem? hx)) (hb.lt _ (List.mem_of_getElem? hy))
  have l1:=tA (f:=Nat.lor) ha.len hb.len hin
  refine an ?_;refine y4 ?_;refine yM ?_;refine yt ?_;refine y3 ?_;refine yY ?_;refine bA ?_;refine bH ?_
  refine an ?_;refine aO ?_;refine dn ?_;refine qM ?_;refine qM ?_;refine qJ ?_
  refine qK ?_;refine qM ?_;refine qJ ?_
  refine qK ?_;refine qW ?_
  refine qJ ?_
  refine rA rfl rfl rfl (by exact rfl) (by exact rfl) (by exact rfl) (by assumption) (by exact rfl) (by exact rfl) (by(simp only[aG];omega)) (by omega) (by omega) (by(repeat apply aT rfl);exact cO) ?_;refine dH ?_
  refine y1 ?_;refine fF ?_;refine bH ?_;refine aq ?_;refine yM ?_;refine iI ?_;refine yM ?_;refine y3 ?_
  refine⟨8-(i+1),by omega,i+1,by omega,rfl,rfl,rfl,?_,?_,?_,?_,?_⟩
  ·rw[Heap.aL (Nat.le_refl _)];exact hl
  ·exact hn
  ·rw[z6,g1,z7]
   rw[←tB ha.len hb.len hx hy,xy]
  ·rw[z5 (by omega)];exact g2
  ·rw[z5 (by omega)];exact g3
 ·obtain rfl:i=8:=by omega
  rw[tw ha.len hb.len]at g1
  have k1:=dh (ha.join hb).len
  have k2:=bU (ha.join hb).len
  have k3:=(ha.join hb).len
  refine an ?_;refine y4 ?_;refine yM ?_;refine yf ?_;refine y3 ?_;refine yX ?_;refine dz ?_;refine ek ?_
  refine ek ?_;refine iY ?_;refine bH ?_;refine y4 ?_;refine yV ?_;refine ah (bQ (by exact rfl) (by exact rfl) (by assumption) (by(simp only[aG];assumption)) (by exact rfl) (by exact cF _)) ?_;refine y3 ?_;refine aM ?_
  refine aD ?_ (cW (own:=true) (s:=1) rfl ?_ k1 k2 rfl) rfl
  ·rw[Heap.aL (by omega)];exact hl
  ·(simp(disch:=first|omega|(simp only[z1,z2];omega))only[z3,z4,z5,z6,z7,z1,z2,g2,g3,g1];done)
theorem GU(hp:bI T)(hf:T 34=some f119){h:Heap}(hr:Rdy h){a b:List Nat}(ha:IsS a)(hb:IsS b):Pu T 34 [sv a,sv b] h (sv (kP a b)):=by
 refine .of hp hf hr (iA _) ?_
 refine y4 ?_;refine yB ?_;refine yB ?_;refine ah (cZ) ?_;refine y3 ?_;refine an ?_;refine y4 ?_
 refine yM ?_;refine y3 ?_;refine aO ?_
 refine dL (fun m e ds h'=>∃i:Nat,i≤8∧m=8-i∧e=[(2, .pointer (some ⟨h.next,0,none⟩)),(3, .pointer (some ⟨h.next+1,0,none⟩)),(4, .pointer (some ⟨h.next+2,0,none⟩)),(5, .int .i64 (i:Nat))]∧ds=[]∧h'.log=[]∧h'.next=h.next+3∧
  h'.get h.next=some (.cells (us (pZ Nat.land a b i)) true 1)∧h'.get (h.next+1)=some (.cells (us b) true 1)∧h'.get (h.next+2)=some (.cells (aW 8 (.int .u64 0)) true 1))
  ⟨0,by omega,rfl,rfl,rfl,hr.log,rfl,?_,?_,?_⟩ ?_
 ·rw[qS];(simp(disch:=first|omega|(simp only[z1,z2];omega))only[z3,z4,z5,z6,z7,z1,z2];exact rfl)
 ·(simp(disch:=first|omega|(simp only[z1,z2];omega)|(simp only[z1,z2];done)|fail)only[Go.A.z8,z4,z5,z9,z7,z1,z2];exact rfl)
 ·(simp(disch:=first|omega|(simp only[z1,z2];omega)|(simp only[z1,z2];done)|fail)only[Go.A.z8,z4,z5,z9,z7,z1,z2];done)
 rintro m e ds h1 ⟨i,hin,rfl,rfl,rfl,hl,hn,g1,g2,g3⟩
 by_cases hlt:i<8
 ·obtain⟨x,hx⟩:∃x,a[i]? =some x:=⟨a[i]'(by rw[ha.len];exact hlt),List.getElem?_eq_getElem _⟩
  obtain⟨y,hy⟩:∃x,b[i]? =some x:=⟨b[i]'(by rw[hb.len];exact hlt),List.getElem?_eq_getElem _⟩
  have e1:=pE (wm (f:=Nat.land) ha.len hb.len hx)
  have e2:=pE hy
  have o1:=pY (ha.lt _ (List.mem_of_getElem? hx)) (hb.lt _ (List.mem_of_getElem? hy))
  have l1:=tA (f:=Nat.land) ha.len hb.len hin
  refine an ?_;refine y4 ?_;refine yM ?_;refine yt ?_;refine y3 ?_;refine yY ?_;refine bA ?_;refine bH ?_
  refine an ?_;refine aO ?_;refine dn ?_;refine qM ?_;refine qM ?_;refine qJ ?_
  refine qK ?_;refine qM ?_;refine qJ ?_
  refine qK ?_;refine qW ?_
  refine qJ ?_
  refine rA rfl rfl rfl (by exact rfl) (by exact rfl) (by exact rfl) (by assumption) (by exact rfl) (by exact rfl) (by(simp only[aG];omega)) (by omega) (by omega) (by(repeat apply aT rfl);exact cO) ?_;refine dH ?_
  refine y1 ?_;refine fF ?_;refine bH ?_;refine aq ?_;refine yM ?_;refine iI ?_;refine yM ?_;refine y3 ?_
  refine⟨8-(i+1),by omega,i+1,by omega,rfl,rfl,rfl,?_,?_,?_,?_,?_⟩
  ·rw[Heap.aL (Nat.le_refl _)];exact hl
  ·exact hn
  ·rw[z6,g1,z7]
   rw[←tB ha.len hb.len hx hy,xy]
  ·rw[z5 (by omega)];exact g2
  ·rw[z5 (by omega)];exact g3
 ·obtain rfl:i=8:=by omega
  rw[tw ha.len hb.len]at g1
  have k1:=dh (ha.meet hb).len
  have k2:=bU (ha.meet hb).len
  have k3:=(ha.meet hb).len
  refine an ?_;refine y4 ?_;refine yM ?_;refine yf ?_;refine y3 ?_;refine yX ?_;refine dz ?_;refine ek ?_
  refine ek ?_;refine iY ?_;refine bH ?_;refine y4 ?_;refine yV ?_;refine ah (bQ (by exact rfl) (by exact rfl) (by assumption) (by(simp only[aG];assumption)) (by exact rfl) (by exact cF _)) ?_;refine y3 ?_;refine aM ?_
  refine aD ?_ (cW (own:=true) (s:=1) rfl ?_ k1 k2 rfl) rfl
  ·rw[Heap.aL (by omega)];exact hl
  ·(simp(disch:=first|omega|(simp only[z1,z2];omega))only[z3,z4,z5,z6,z7,z1,z2,g2,g3,g1];done)
theorem rz:∀(a b:List Nat),a.length=b.length→bC (aW a.length (.i .u64)) (us a) (us b)=some (decide (a=b))
 |[],[],_=>rfl
 |x::a,y::b,h=>by
  have hl:a.length=b.length:=by simpa using h
  have ih:=rz a b hl
  show bC (aW (a.length+1) (.i .u64)) (.int .u64 (x:Nat)::us a) (.int .u64 (y:Nat)::us b)=_
  simp only[aW,bC,ij,if_true]
  by_cases hxy:x=y
  ·subst hxy
   simp only[beq_self_eq_true,ih,List.cons.injEq,true_and]
  ·have:((x:Int)==(y:Int))=false:=by simp;omega
   simp only[this,ih]
   rw[decide_eq_false]
   intro q;injection q with q _;exact hxy q
 |[],_::_,h=>by simp at h
 |_::_,[],h=>by simp at h
theorem DB{a b:List Nat}(ha:a.length=8)(hb:b.length=8):bC (aW 8 (.i .u64)) (us a).toArray.toList (us b).toArray.toList=some (decide (a=b)):=by
 have:=rz a b (by omega)
 rw[ha]at this
 simpa using this
theorem Cg(pl:List Nat):je (.agg (us pl).toArray) (.agg (us pl).toArray)=true:=by
 refine ry ?_
 rw[List.toList_toArray]
 induction pl with
 |nil=>rfl
 |cons p pl ih=>exact fJ (iq _ _) ih
def s0:List Nat:=[0,0,0,0,0,0,0,0]
theorem lK:IsS s0:=⟨rfl,fun x hx=>by simp[s0]at hx;subst hx;decide⟩
theorem pM{base:Nat}{h:Heap}{e:Env}{x y:Operand}{a b:List Nat}{neq:Bool}(hx:ev h e x=some (sv a))(hy:ev h e y=some (sv b))(ha:a.length=8)(hb:b.length=8):
 aop h base e (.bin (.agg neq (aW 8 (.i .u64))) x y)=some (.val (.bool (bif neq then !decide (a=b)else decide (a=b))) h):=MX hx hy (DB ha hb)
def sIn(a b:List Nat):Bool:=decide (kP a b=a)
theorem K5(hp:bI T)(hf:T 39=some f35)(hm:T 73=some f121){h:Heap}(hr:Rdy h){a b:List Nat}(ha:IsS a)(hb:IsS b):Pu T 39 [sv a,sv b] h (.bool (sIn a b)):=by
 refine .of hp hf hr rfl ?_
 have k1:=dh ha.len
 have k2:=bU ha.len
 have k3:=dh hb.len
 have k4:=bU hb.len
 refine y4 ?_;refine yB ?_;refine yB ?_;refine yM ?_;refine y3 ?_;refine an ?_;refine dn ?_
 refine aF rfl rfl rfl (by exact rfl) (by exact rfl) (by exact rfl) (dK (by exact rfl) (by(simp(disch:=first|omega|(simp only[z1,z2];omega))only[z3,z4,z5,z6,z7,z1,z2];exact rfl)) (by assumption) (by assumption)) ?_
 refine aF rfl rfl rfl (by exact rfl) (by exact rfl) (by exact rfl) (dK (by exact rfl) (by(simp(disch:=first|omega|(simp only[z1,z2];omega)|(simp only[z1,z2];done)|fail)only[Go.A.z8,z4,z5,z9,z7,z1,z2];exact rfl)) (by assumption) (by assumption)) ?_
 refine aF rfl rfl rfl (by exact rfl) (by exact rfl) (by exact rfl) (dK (by exact rfl) (by(simp(disch:=first|omega|(simp only[z1,z2];omega))only[z3,z4,z5,z6,z7,z1,z2];exact rfl)) (by assumption) (by assumption)) ?_
 refine qC ?_
 refine FW.puD (Iu hp hm (.of ((((hr.wf.push _).push _)))) ha hb) (by apply aN rfl (aI rfl (dK (by exact rfl) (by(simp(disch:=first|omega|(simp only[z1,z2];omega))only[z3,z4,z5,z6,z7,z1,z2];exact rfl)) (by assumption) (by assumption)) (by exact Cg _)) rfl;(repeat apply aT rfl);exact cO) ?_
 skip
 refine aF rfl rfl rfl (by exact rfl) (by exact rfl) (by exact rfl) (pM (by exact rfl) (by exact rfl) (ha.meet hb).len ha.len) ?_
 refine qM ?_;refine dH ?_;refine y1 ?_;refine bH ?_;refine aM ?_
 exact aD hr.log rfl rfl
end Go.A.Pk
end
section
set_option maxRecDepth 100000
namespace Go.A.Pk
def bitsOf(x:Nat):List Nat:=(List.range 64).filter (Nat.testBit x)
theorem y9:∀x:Nat,x≠0→∃k m,x=2 ^ k*(2*m+1)
 |x,hx=>by
  by_cases h:x % 2=1
  ·exact⟨0,x / 2,by omega⟩
  ·obtain⟨k,m,e⟩:=y9 (x / 2) (by omega)
   exact⟨k+1,m,by rw[Nat.pow_succ,Nat.mul_comm (2 ^ k) 2,Nat.mul_assoc,←e];omega⟩
 termination_by x=>x
theorem lE{x k m:Nat}(h:x=2 ^ k*(2*m+1))(i:Nat):Nat.testBit x i=(if i<k then false else if i=k then true else Nat.testBit m (i-k-1)):=by
 rw[h,Nat.testBit_two_pow_mul]
 by_cases h1:i<k
 ·simp[h1,show¬k≤i by omega]
 ·rw[if_neg h1]
  simp only[ge_iff_le,show k≤i by omega,decide_true,Bool.true_and]
  by_cases h2:i=k
  ·subst h2;simp
  ·rw[if_neg h2,show i-k=(i-k-1)+1 by omega,Nat.testBit_succ]
   congr 1;omega
theorem v8{x k m:Nat}(h:x=2 ^ k*(2*m+1))(hx:x<2 ^ 64):k<64∧Nat.land x (2 ^ 64-x)=2 ^ k:=by
 have hk:k<64:=by
  apply Nat.lt_of_not_le
  intro hk
  have h1:2 ^ 64≤2 ^ k:=Nat.pow_le_pow_right (by omega) hk
  have h2:2 ^ k*1≤2 ^ k*(2*m+1):=Nat.mul_le_mul_left _ (by omega)
  omega
 refine⟨hk,?_⟩
 obtain⟨d,hd⟩:∃d,64=k+1+d:=⟨63-k,by omega⟩
 have hp:2 ^ 64=2 ^ k*(2*2 ^ d):=by rw[hd,Nat.pow_add,Nat.pow_succ,Nat.mul_assoc]
 have hm:2*m+1<2*2 ^ d:=by
  rw[h,hp]at hx
  exact Nat.lt_of_mul_lt_mul_left hx
 have hsub:2 ^ 64-x=2 ^ k*(2*(2 ^ d-(m+1))+1):=by
  rw[h,hp,←Nat.mul_sub]
  congr 1;omega
 rw[hsub,h]
 apply Nat.eq_of_testBit_eq
 intro i
 show Nat.testBit (_&&&_) i=_
 rw[Nat.testBit_and,lE rfl,lE rfl,Nat.testBit_two_pow]
 by_cases h1:i<k
 ·simp[h1,show¬k=i by omega]
 ·by_cases h2:i=k
  ·subst h2;simp
  ·simp only[h1,h2,if_false,show¬k=i by omega,decide_false]
   rw[Nat.testBit_two_pow_sub_succ (by omega)]
   cases Nat.testBit m (i-k-1)<;>simp
theorem Fo{x k m:Nat}(h:x=2 ^ k*(2*m+1))(i:Nat):Nat.testBit (Nat.land x (x-1)) i=(Nat.testBit x i&&decide (i≠k)):=by
 have hpos:0<2 ^ k:=Nat.pow_pos (by omega)
 have h1:x-1=2 ^ k*(2*m)+(2 ^ k-1):=by
  rw[h,Nat.mul_add];omega
 show Nat.testBit (x&&&(x-1)) i=_
 rw[Nat.testBit_and,h1,Nat.testBit_two_pow_mul_add _ (by omega)]
 by_cases h2:i<k
 ·rw[if_pos h2,lE h,if_pos h2];simp
 ·rw[if_neg h2]
  by_cases h3:i=k
  ·subst h3;simp
  ·rw[lE h,if_neg h2,if_neg h3,show i-k=(i-k-1)+1 by omega,Nat.testBit_succ,show 2*m / 2=m by omega]
   simp[h3]
theorem pQ:∀(n a:Nat) (p q:Nat→Bool) (k:Nat),a≤k→k<a+n→p k=true→(∀i,a≤i→i<k→p i=false)→(∀i,q i=(p i&&decide (i≠k)))→(List.range' a n).filter p=k::(List.range' a n).filter q
 |0,a,p,q,k,h1,h2,_,_,_=>by omega
 |n+1,a,p,q,k,h1,h2,h3,h4,h5=>by
  rw[List.range'_succ]
  by_cases ha:a=k
  ·subst ha
   have hq:q a=false:=by rw[h5];simp
   rw[List.filter_cons_of_pos h3,List.filter_cons_of_neg (by rw[hq];simp)]
   congr 1
   apply List.filter_congr
   intro i hi
   have:a<i:=by
    have:=(List.mem_range'_1.1 hi).1;omega
   rw[h5];simp;intro _;omega
  ·have hp:p a=false:=h4 a (Nat.le_refl _) (by omega)
   have hq:q a=false:=by rw[h5,hp];rfl
   rw[List.filter_cons_of_neg (by rw[hp];simp),List.filter_cons_of_neg (by rw[hq];simp)]
   exact pQ n (a+1) p q k (by omega) (by omega) h3 (fun i h1 h2=>h4 i (by omega) h2) h5
theorem xP{x k m:Nat}(h:x=2 ^ k*(2*m+1))(hx:x<2 ^ 64):bitsOf x=k::bitsOf (Nat.land x (x-1)):=by
 have hk:=(v8 h hx).1
 unfold bitsOf
 rw[List.range_eq_range']
 refine pQ 64 0 _ _ k (Nat.zero_le _) (by omega) (by rw[lE h];simp) (fun i _ hi=>by rw[lE h,if_pos hi]) (fun i=>Fo h i)
theorem xQ:bitsOf 0=[]:=by
 unfold bitsOf
 rw[List.filter_eq_nil_iff]
 intro i _;simp
def xX:List Nat:=[0,1,56,2,57,49,28,3,61,58,42,50,38,29,17,4,62,47,59,36,45,43,51,22,53,39,33,30,24,18,12,5,63,55,48,27,60,41,37,16,46,35,44,21,52,32,23,11,54,26,40,15,34,20,31,10,25,14,19,9,13,8,7,6]
theorem KU:∀k:Fin 64,xX[((2 ^ k.val*285870213051353865) % 18446744073709551616)>>>58]? =some k.val:=by decide
def pop8(b:Nat):Nat:=((List.range 8).filter (Nat.testBit b)).length
theorem CL{q r M c s:Nat}(hr:r<256)(hs:s≤8)(hc:c<2 ^ (8-s)):Nat.land (Nat.shiftRight (2 ^ 8*q+r) s) (2 ^ 8*M+c)=2 ^ 8*Nat.land (Nat.shiftRight q s) M+Nat.land (Nat.shiftRight r s) c:=by
 have hc8:c<2 ^ 8:=Nat.lt_of_lt_of_le hc (Nat.pow_le_pow_right (by omega) (by omega))
 have hl:Nat.land (Nat.shiftRight r s) c<2 ^ 8:=Nat.lt_of_le_of_lt (Nat.and_le_right (n:=Nat.shiftRight r s) (m:=c)) hc8
 apply Nat.eq_of_testBit_eq
 intro i
 have e1:∀a b:Nat,Nat.land a b=a&&&b:=fun _ _=>rfl
 have e2:∀a b:Nat,Nat.shiftRight a b=a>>>b:=fun _ _=>rfl
 rw[Nat.testBit_two_pow_mul_add _ hl]
 simp only[e1,e2,Nat.testBit_and,Nat.testBit_shiftRight]
 rw[Nat.testBit_two_pow_mul_add _ hr,Nat.testBit_two_pow_mul_add _ hc8]
 by_cases hi:i<8
 ·rw[if_pos hi,if_pos hi]
  by_cases hsi:s+i<8
  ·rw[if_pos hsi]
  ·have:c.testBit i=false:=Nat.testBit_lt_two_pow (Nat.lt_of_lt_of_le hc (Nat.pow_le_pow_right (by omega) (by omega)))
   rw[this,Bool.and_false,Bool.and_false]
 ·rw[if_neg hi,if_neg hi,if_neg (by omega)]
  congr 2;omega
theorem Fu{q s M:Nat}(hq:q=0):Nat.land (Nat.shiftRight q s) M=0:=by
 subst hq
 have e1:Nat.land (Nat.shiftRight 0 s) M=(0>>>s)&&&M:=rfl
 rw[e1];simp
def byt(l:List Nat):Nat:=l.foldr (fun b q=>2 ^ 8*q+b) 0
theorem fu(b:Nat)(l:List Nat):byt (b::l)=2 ^ 8*byt l+b:=rfl
theorem jx{c s:Nat}(hs:s≤8)(hc:c<2 ^ (8-s)):∀l:List Nat,(∀b∈l,b<256)→Nat.land (Nat.shiftRight (byt l) s) (byt (l.map fun _=>c))=byt (l.map fun b=>Nat.land (Nat.shiftRight b s) c)
 |[],_=>Fu rfl
 |b::l,h=>by
  rw[List.map_cons,List.map_cons,fu,fu,fu,CL (h b List.mem_cons_self) hs hc,jx hs hc l fun x hx=>h x (List.mem_cons_of_mem _ hx)]
theorem vH(f g:Nat→Nat):∀l:List Nat,byt (l.map f)+byt (l.map g)=byt (l.map fun b=>f b+g b)
 |[]=>rfl
 |b::l=>by
  simp only[List.map_cons,fu]
  rw[←vH f g l];omega
theorem ED(x:Nat):∀n,x<2 ^ (8*n)→∃l:List Nat,l.length=n∧(∀b∈l,b<256)∧x=byt l
 |0,h=>⟨[],rfl,fun _ h=>by simp at h,by simp at h;exact h⟩
 |n+1,h=>by
  obtain⟨l,h1,h2,h3⟩:=ED (x / 2 ^ 8) n (by
   rw[Nat.div_lt_iff_lt_mul (by omega),←Nat.pow_add]
   exact Nat.lt_of_lt_of_le h (Nat.pow_le_pow_right (by omega) (by omega)))
  refine⟨x % 2 ^ 8::l,by simp[h1],fun b hb=> ?_,?_⟩
  ·rcases List.mem_cons.1 hb with rfl|hb
   ·exact Nat.mod_lt _ (by omega)
   ·exact h2 b hb
  ·rw[fu,←h3];omega
theorem xS:∀(n:Nat) (l:List Nat),l.length=n→(∀b∈l,b<256)→((List.range (8*n)).filter (Nat.testBit (byt l))).length=(l.map pop8).sum
 |0,l,h,_=>by
  have:l=[]:=List.length_eq_zero_iff.1 h
  subst this;rfl
 |n+1,[],h,_=>by simp at h
 |n+1,b::l,h,hb=>by
  have ih:=xS n l (by simpa using h) fun x hx=>hb x (List.mem_cons_of_mem _ hx)
  have hb8:b<2 ^ 8:=hb b List.mem_cons_self
  rw[show 8*(n+1)=8+8*n by omega,List.range_add,List.filter_append,List.length_append,List.map_cons,List.sum_cons]
  congr 1
  ·unfold pop8
   congr 1
   apply List.filter_congr
   intro i hi
   rw[fu,Nat.testBit_two_pow_mul_add _ hb8,if_pos (by simpa using hi)]
  ·rw[←ih,List.filter_map,List.length_map]
   congr 1
   apply List.filter_congr
   intro i hi
   show Nat.testBit (byt (b::l)) (8+i)=_
   rw[fu,Nat.testBit_two_pow_mul_add _ hb8,if_neg (by omega)]
   congr 1;omega
def st1(b:Nat):Nat:=Nat.land (Nat.shiftRight b 1) 85+Nat.land (Nat.shiftRight b 0) 85
def st2(b:Nat):Nat:=Nat.land (Nat.shiftRight b 2) 51+Nat.land (Nat.shiftRight b 0) 51
theorem G9:∀b:Fin 256,st1 b.val<256∧st2 (st1 b.val)<256∧st2 (st1 b.val) % 16+st2 (st1 b.val) / 16=pop8 b.val∧pop8 b.val≤8∧st2 (st1 b.val) % 16≤4∧st2 (st1 b.val) / 16≤4:=by decide
end Go.A.Pk
end
section
set_option maxRecDepth 100000
namespace Go.A.Pk
variable {T:Nat→Option af}
theorem len8{α:Type}{l:List α}(h:l.length=8):∃a b c d e f g i,l=[a,b,c,d,e,f,g,i]:=by
 match l,h with
 |[a,b,c,d,e,f,g,i],_=>exact⟨a,b,c,d,e,f,g,i,rfl⟩
theorem qy{l:List Nat}(h:l.length=8)(c:Nat):byt (l.map fun _=>c)=c*72340172838076673:=by
 obtain⟨x0,x1,x2,x3,x4,x5,x6,x7,rfl⟩:=len8 h
 show byt [c,c,c,c,c,c,c,c]=_
 unfold byt
 simp only[List.foldr]
 omega
theorem mQ:∀{l:List Nat} (n:Nat),l.length=n→(∀b∈l,b<256)→byt l<2 ^ (8*n)
 |[],n,h,_=>by subst h;show 0<2 ^ 0;omega
 |b::l,n,h,hb=>by
  obtain⟨m,rfl⟩:∃m,n=m+1:=⟨n-1,by simp at h;omega⟩
  have ih:=mQ m (by simpa using h) fun x hx=>hb x (List.mem_cons_of_mem _ hx)
  have h8:=hb b List.mem_cons_self
  rw[fu,show 8*(m+1)=8*m+8 by omega,Nat.pow_add]
  omega
theorem sr:byt []=0:=rfl
theorem lV{b:Nat}{l:List Nat}(h:b<256):byt (b::l) / 2 ^ 8=byt l:=by rw[fu];omega
structure ON (x a1 b1 c1 a2 b2 c2 c3 c4 c5 c6:Nat):Prop where
 s1:Nat.land (Nat.shiftRight x 1) 6148914691236517205=a1∧Nat.land x 6148914691236517205=b1∧a1+b1=c1∧a1+b1<U64∧c1<U64
 s2:Nat.land (Nat.shiftRight c1 2) 3689348814741910323=a2∧Nat.land c1 3689348814741910323=b2∧a2+b2=c2∧a2+b2<U64∧c2<U64
 s3:Nat.shiftRight c2 4+c2<U64∧Nat.land (Nat.shiftRight c2 4+c2) 1085102592571150095=c3∧c3<U64
 s4:c3+Nat.shiftRight c3 8=c4∧c4<U64
 s5:c4+Nat.shiftRight c4 16=c5∧c5<U64
 s6:c5+Nat.shiftRight c5 32=c6∧c6<9223372036854775808
 fin:c6 % 128=(bitsOf x).length
theorem Jn(x:Nat):Nat.shiftRight x 0=x:=rfl
theorem G4(x n:Nat):Nat.shiftRight x n=x / 2 ^ n:=Nat.shiftRight_eq_div_pow x n
theorem Lb(b:Nat):Nat.land b 15=b % 16:=Nat.and_two_pow_sub_one_eq_mod b 4
theorem QH{x:Nat}(hx:x<U64):∃a1 b1 c1 a2 b2 c2 c3 c4 c5 c6,ON x a1 b1 c1 a2 b2 c2 c3 c4 c5 c6:=by
 obtain⟨l,hl,hlb,rfl⟩:=ED x 8 hx
 have hb1:∀b∈l,st1 b<256∧st2 (st1 b)<256∧st2 (st1 b) % 16+st2 (st1 b) / 16=pop8 b∧pop8 b≤8∧st2 (st1 b) % 16≤4∧st2 (st1 b) / 16≤4:=fun b hb=>G9 ⟨b,hlb b hb⟩
 have m1:=jx (c:=85) (s:=1) (by omega) (by decide) l hlb
 have m2:=jx (c:=85) (s:=0) (by omega) (by decide) l hlb
 rw[qy hl]at m1 m2
 rw[Jn]at m2
 have e1:byt (l.map fun b=>Nat.land (Nat.shiftRight b 1) 85)+byt (l.map fun b=>Nat.land (Nat.shiftRight b 0) 85)=byt (l.map st1):=vH _ _ l
 have hl1:(l.map st1).length=8:=by simp[hl]
 have hlb1:∀b∈l.map st1,b<256:=fun b hb=>by
  obtain⟨a,ha,rfl⟩:=List.mem_map.1 hb;exact(hb1 a ha).1
 have lt1:=mQ 8 hl1 hlb1
 have n1:=jx (c:=51) (s:=2) (by omega) (by decide) (l.map st1) hlb1
 have n2:=jx (c:=51) (s:=0) (by omega) (by decide) (l.map st1) hlb1
 rw[qy hl1]at n1 n2
 rw[Jn]at n2
 have e2:byt ((l.map st1).map fun b=>Nat.land (Nat.shiftRight b 2) 51)+byt ((l.map st1).map fun b=>Nat.land (Nat.shiftRight b 0) 51)=byt ((l.map st1).map st2):=vH _ _ _
 have hl2:((l.map st1).map st2).length=8:=by simp[hl]
 have hlb2:∀b∈(l.map st1).map st2,b<256:=fun b hb=>by
  obtain⟨a1,ha1,rfl⟩:=List.mem_map.1 hb
  obtain⟨a,ha,rfl⟩:=List.mem_map.1 ha1
  exact(hb1 a ha).2.1
 have lt2:=mQ 8 hl2 hlb2
 have hc:∀b∈(l.map st1).map st2,b % 16≤4∧b / 16≤4:=fun b hb=>by
  obtain⟨a1,ha1,rfl⟩:=List.mem_map.1 hb
  obtain⟨a,ha,rfl⟩:=List.mem_map.1 ha1
  exact(hb1 a ha).2.2.2.2
 have hsum:(((l.map st1).map st2).map fun b=>b % 16+b / 16).sum=(bitsOf (byt l)).length:=by
  have hbb:(bitsOf (byt l)).length=(l.map pop8).sum:=xS 8 l hl hlb
  rw[hbb,List.map_map,List.map_map]
  congr 1
  apply List.map_congr_left
  intro b hb
  exact(hb1 b hb).2.2.1
 generalize(l.map st1).map st2=m at*
 obtain⟨x0,x1,x2,x3,x4,x5,x6,x7,rfl⟩:=len8 hl2
 have k0:=hc x0 (by simp);have k1:=hc x1 (by simp);have k2:=hc x2 (by simp);have k3:=hc x3 (by simp)
 have k4:=hc x4 (by simp);have k5:=hc x5 (by simp);have k6:=hc x6 (by simp);have k7:=hc x7 (by simp)
 have hm:byt [x0,x1,x2,x3,x4,x5,x6,x7]=x0+256*x1+65536*x2+16777216*x3+4294967296*x4+1099511627776*x5+281474976710656*x6+72057594037927936*x7:=by
  unfold byt;simp only[List.foldr];omega
 have hz:Nat.shiftRight (byt [x0,x1,x2,x3,x4,x5,x6,x7]) 4+byt [x0,x1,x2,x3,x4,x5,x6,x7]=byt [x0+x0 / 16+16*(x1 % 16),x1+x1 / 16+16*(x2 % 16),x2+x2 / 16+16*(x3 % 16),x3+x3 / 16+16*(x4 % 16),x4+x4 / 16+16*(x5 % 16),x5+x5 / 16+16*(x6 % 16),x6+x6 / 16+16*(x7 % 16),x7+x7 / 16]:=by
  rw[G4,hm]
  unfold byt;simp only[List.foldr]
  omega
 have hzb:∀b∈[x0+x0 / 16+16*(x1 % 16),x1+x1 / 16+16*(x2 % 16),x2+x2 / 16+16*(x3 % 16),x3+x3 / 16+16*(x4 % 16),x4+x4 / 16+16*(x5 % 16),x5+x5 / 16+16*(x6 % 16),x6+x6 / 16+16*(x7 % 16),x7+x7 / 16],b<256:=by
  intro b hb
  simp only[List.mem_cons,List.not_mem_nil,or_false]at hb
  rcases hb with rfl|rfl|rfl|rfl|rfl|rfl|rfl|rfl<;>omega
 have p1:=jx (c:=15) (s:=0) (by omega) (by decide) _ hzb
 rw[qy (by rfl),Jn]at p1
 have ltz:=mQ 8 (by rfl) hzb
 have hy:byt ([x0+x0 / 16+16*(x1 % 16),x1+x1 / 16+16*(x2 % 16),x2+x2 / 16+16*(x3 % 16),x3+x3 / 16+16*(x4 % 16),x4+x4 / 16+16*(x5 % 16),x5+x5 / 16+16*(x6 % 16),x6+x6 / 16+16*(x7 % 16),x7+x7 / 16].map fun b=>Nat.land (Nat.shiftRight b 0) 15)=
  byt [x0 % 16+x0 / 16,x1 % 16+x1 / 16,x2 % 16+x2 / 16,x3 % 16+x3 / 16,x4 % 16+x4 / 16,x5 % 16+x5 / 16,x6 % 16+x6 / 16,x7 % 16+x7 / 16]:=by
  simp only[List.map,Jn,Lb]
  have q:∀x y:Nat,x % 16≤4→x / 16≤4→(x+x / 16+16*(y % 16)) % 16=x % 16+x / 16:=fun x y h1 h2=>by omega
  rw[q _ _ k0.1 k0.2,q _ _ k1.1 k1.2,q _ _ k2.1 k2.2,q _ _ k3.1 k3.2,q _ _ k4.1 k4.2,q _ _ k5.1 k5.2,q _ _ k6.1 k6.2,show(x7+x7 / 16) % 16=x7 % 16+x7 / 16 by omega]
 simp only[List.map,List.sum_cons,List.sum_nil]at hsum
 have r0:x0 % 16+x0 / 16≤8:=by omega
 have r1:x1 % 16+x1 / 16≤8:=by omega
 have r2:x2 % 16+x2 / 16≤8:=by omega
 have r3:x3 % 16+x3 / 16≤8:=by omega
 have r4:x4 % 16+x4 / 16≤8:=by omega
 have r5:x5 % 16+x5 / 16≤8:=by omega
 have r6:x6 % 16+x6 / 16≤8:=by omega
 have r7:x7 % 16+x7 / 16≤8:=by omega
 clear hc hzb hlb2 hl2
 generalize x0 % 16+x0 / 16=d0 at*
 generalize x1 % 16+x1 / 16=d1 at*
 generalize x2 % 16+x2 / 16=d2 at*
 generalize x3 % 16+x3 / 16=d3 at*
 generalize x4 % 16+x4 / 16=d4 at*
 generalize x5 % 16+x5 / 16=d5 at*
 generalize x6 % 16+x6 / 16=d6 at*
 generalize x7 % 16+x7 / 16=d7 at*
 clear k0 k1 k2 k3 k4 k5 k6 k7
 have v4:byt [d0,d1,d2,d3,d4,d5,d6,d7] / 2 ^ 8=byt [d1,d2,d3,d4,d5,d6,d7]:=lV (by omega)
 have w4:byt [d0,d1,d2,d3,d4,d5,d6,d7]+byt [d1,d2,d3,d4,d5,d6,d7]=byt [d0+d1,d1+d2,d2+d3,d3+d4,d4+d5,d5+d6,d6+d7,d7]:=by
  simp only[fu,sr];omega
 have v5:byt [d0+d1,d1+d2,d2+d3,d3+d4,d4+d5,d5+d6,d6+d7,d7] / 2 ^ 16=byt [d2+d3,d3+d4,d4+d5,d5+d6,d6+d7,d7]:=by
  rw[show 2 ^ 16=2 ^ 8*2 ^ 8 from rfl,←Nat.div_div_eq_div_mul,lV (by omega),lV (by omega)]
 have w5:byt [d0+d1,d1+d2,d2+d3,d3+d4,d4+d5,d5+d6,d6+d7,d7]+byt [d2+d3,d3+d4,d4+d5,d5+d6,d6+d7,d7]=byt [d0+d1+d2+d3,d1+d2+d3+d4,d2+d3+d4+d5,d3+d4+d5+d6,d4+d5+d6+d7,d5+d6+d7,d6+d7,d7]:=by
  simp only[fu,sr];omega
 have v6:byt [d0+d1+d2+d3,d1+d2+d3+d4,d2+d3+d4+d5,d3+d4+d5+d6,d4+d5+d6+d7,d5+d6+d7,d6+d7,d7] / 2 ^ 32=byt [d4+d5+d6+d7,d5+d6+d7,d6+d7,d7]:=by
  rw[show 2 ^ 32=2 ^ 8*2 ^ 8*2 ^ 8*2 ^ 8 from rfl,←Nat.div_div_eq_div_mul,←Nat.div_div_eq_div_mul,←Nat.div_div_eq_div_mul,lV (by omega),lV (by omega),lV (by omega),lV (by omega)]
 have w6:byt [d0+d1+d2+d3,d1+d2+d3+d4,d2+d3+d4+d5,d3+d4+d5+d6,d4+d5+d6+d7,d5+d6+d7,d6+d7,d7]+byt [d4+d5+d6+d7,d5+d6+d7,d6+d7,d7]=byt [d0+d1+d2+d3+d4+d5+d6+d7,d1+d2+d3+d4+d5+d6+d7,d2+d3+d4+d5+d6+d7,d3+d4+d5+d6+d7,d4+d5+d6+d7,d5+d6+d7,d6+d7,d7]:=by
  simp only[fu,sr];omega
 have lt3:byt [d0,d1,d2,d3,d4,d5,d6,d7]<U64:=mQ 8 rfl (by intro b hb;simp only[List.mem_cons,List.not_mem_nil,or_false]at hb;omega)
 have lt4:byt [d0+d1,d1+d2,d2+d3,d3+d4,d4+d5,d5+d6,d6+d7,d7]<U64:=mQ 8 rfl (by intro b hb;simp only[List.mem_cons,List.not_mem_nil,or_false]at hb;omega)
 have lt5:byt [d0+d1+d2+d3,d1+d2+d3+d4,d2+d3+d4+d5,d3+d4+d5+d6,d4+d5+d6+d7,d5+d6+d7,d6+d7,d7]<U64:=mQ 8 rfl (by intro b hb;simp only[List.mem_cons,List.not_mem_nil,or_false]at hb;omega)
 have lt6:byt [d0+d1+d2+d3+d4+d5+d6+d7,d1+d2+d3+d4+d5+d6+d7,d2+d3+d4+d5+d6+d7,d3+d4+d5+d6+d7,d4+d5+d6+d7,d5+d6+d7,d6+d7,d7]<9223372036854775808:=by
  have h7:=mQ (l:=[d0+d1+d2+d3+d4+d5+d6+d7,d1+d2+d3+d4+d5+d6+d7,d2+d3+d4+d5+d6+d7,d3+d4+d5+d6+d7,d4+d5+d6+d7,d5+d6+d7,d6+d7]) 7 rfl (by intro b hb;simp only[List.mem_cons,List.not_mem_nil,or_false]at hb;omega)
  simp only[fu,sr]at h7⊢
  omega
 have fin:byt [d0+d1+d2+d3+d4+d5+d6+d7,d1+d2+d3+d4+d5+d6+d7,d2+d3+d4+d5+d6+d7,d3+d4+d5+d6+d7,d4+d5+d6+d7,d5+d6+d7,d6+d7,d7] % 128=d0+d1+d2+d3+d4+d5+d6+d7:=by
  rw[fu]
  generalize byt _=z
  omega
 refine⟨_,_,_,_,_,_,byt [d0,d1,d2,d3,d4,d5,d6,d7],byt [d0+d1,d1+d2,d2+d3,d3+d4,d4+d5,d5+d6,d6+d7,d7],byt [d0+d1+d2+d3,d1+d2+d3+d4,d2+d3+d4+d5,d3+d4+d5+d6,d4+d5+d6+d7,d5+d6+d7,d6+d7,d7],byt [d0+d1+d2+d3+d4+d5+d6+d7,d1+d2+d3+d4+d5+d6+d7,d2+d3+d4+d5+d6+d7,d3+d4+d5+d6+d7,d4+d5+d6+d7,d5+d6+d7,d6+d7,d7],⟨m1,m2,e1,?_,lt1⟩,⟨n1,n2,e2,?_,lt2⟩,⟨?_,?_,lt3⟩,⟨?_,lt4⟩,⟨?_,lt5⟩,⟨?_,lt6⟩,?_⟩
 ·rw[e1];exact lt1
 ·rw[e2];exact lt2
 ·rw[hz];exact ltz
 ·rw[hz];exact p1.trans hy
 ·rw[G4,v4,w4]
 ·rw[G4,v5,w5]
 ·rw[G4,v6,w6]
 ·rw[fin,←hsum];omega
abbrev Tab(h:Heap):Prop:=h.get 0=some (.cells (xX.map fun n=> .int .u8 (n:Nat)) false 1)
theorem KY{h:Heap}{e:Env}(g:Tab h):ev h e (.global 0)=some (.pointer (some ⟨0,0,none⟩)):=by
 simp only[ev];rw[g]
theorem Tab.ext{h h':Heap}(g:Tab h)(x:Ext h h')(h2:0<h.next):Tab h':=(x.old 0 h2).trans g
theorem Fq{v:Nat}(hv:v<9223372036854775808):aA .and (.int .i64 (v:Nat)) (.int .i64 127)=some (.int .i64 ((v % 128:Nat):Int)):=by
 have e1:(BitVec.ofInt 64 ((v:Nat):Int)).toNat=v:=by rw[BitVec.ofInt_natCast,BitVec.toNat_ofNat];omega
 have e2:(BitVec.ofInt 64 (127:Int)).toNat=127:=by decide
 have e3:((BitVec.ofInt 64 ((v:Nat):Int))&&&(BitVec.ofInt 64 (127:Int))).toNat=v % 128:=by
  rw[BitVec.toNat_and,e1,e2];exact Nat.and_two_pow_sub_one_eq_mod v 7
 show arith .and .i64 (v:Nat) 127=_
 have:arith .and .i64 (v:Nat) 127=some (.int .i64 (IntKind.i64.wrap ((BitVec.ofInt 64 ((v:Nat):Int))&&&(BitVec.ofInt 64 (127:Int))).toNat)):=rfl
 rw[this,e3]
 have hw:IntKind.i64.wrap ((v % 128:Nat):Int)=((v % 128:Nat):Int):=by
  unfold IntKind.wrap
  simp[IntKind.signed,IntKind.bits]
  omega
 rw[hw]
theorem IK(hp:bI T)(hf:T 127=some f254){h:Heap}(hr:Rdy h){x:Nat}(hx:x<U64):Pu T 127 [.int .u64 (x:Nat)] h (.int .i64 ((bitsOf x).length:Nat)):=by
 refine .of hp hf hr rfl ?_
 obtain⟨a1,b1,c1,a2,b2,c2,c3,c4,c5,c6,⟨q1,q2,q3,q4,q5⟩,⟨p1,p2,p3,p4,p5⟩,⟨o1,o2,o3⟩,⟨n1,n2⟩,⟨m1,m2⟩,⟨l1,l2⟩,fin⟩:=QH hx
 have sh:∀y n:Nat,y<U64→Nat.shiftRight y n<U64:=fun y n hy=>Nat.lt_of_le_of_lt (by rw[G4];exact Nat.div_le_self _ _) hy
 have k1:aA .shr (.int .u64 (x:Nat)) (.int .u64 1)=some (.int .u64 ((Nat.shiftRight x 1:Nat):Int)):=rP (n:=1) (by omega)
 have k2:aA .and (.int .u64 ((Nat.shiftRight x 1:Nat):Int)) (.int .u64 6148914691236517205)=_:=pY (a:=Nat.shiftRight x 1) (b:=6148914691236517205) (sh _ _ hx) (by omega)
 have k3:aA .and (.int .u64 (x:Nat)) (.int .u64 6148914691236517205)=_:=pY (a:=x) (b:=6148914691236517205) hx (by omega)
 rw[q1]at k2
 rw[q2]at k3
 have k4:=qQ q4
 rw[q3]at k4
 have k5:aA .shr (.int .u64 (c1:Nat)) (.int .u64 2)=some (.int .u64 ((Nat.shiftRight c1 2:Nat):Int)):=rP (n:=2) (by omega)
 have k6:aA .and (.int .u64 ((Nat.shiftRight c1 2:Nat):Int)) (.int .u64 3689348814741910323)=_:=pY (a:=Nat.shiftRight c1 2) (b:=3689348814741910323) (sh _ _ q5) (by omega)
 have k7:aA .and (.int .u64 (c1:Nat)) (.int .u64 3689348814741910323)=_:=pY (a:=c1) (b:=3689348814741910323) q5 (by omega)
 rw[p1]at k6
 rw[p2]at k7
 have k8:=qQ p4
 rw[p3]at k8
 have k9:aA .shr (.int .u64 (c2:Nat)) (.int .u64 4)=some (.int .u64 ((Nat.shiftRight c2 4:Nat):Int)):=rP (n:=4) (by omega)
 have k10:=qQ o1
 have k11:aA .and (.int .u64 ((Nat.shiftRight c2 4+c2:Nat):Int)) (.int .u64 1085102592571150095)=_:=pY (b:=1085102592571150095) o1 (by omega)
 rw[o2]at k11
 have k12:aA .shr (.int .u64 (c3:Nat)) (.int .u64 8)=some (.int .u64 ((Nat.shiftRight c3 8:Nat):Int)):=rP (n:=8) (by omega)
 have k13:=qQ (a:=c3) (b:=Nat.shiftRight c3 8) (by rw[n1];exact n2)
 rw[n1]at k13
 have k14:aA .shr (.int .u64 (c4:Nat)) (.int .u64 16)=some (.int .u64 ((Nat.shiftRight c4 16:Nat):Int)):=rP (n:=16) (by omega)
 have k15:=qQ (a:=c4) (b:=Nat.shiftRight c4 16) (by rw[m1];exact m2)
 rw[m1]at k15
 have k16:aA .shr (.int .u64 (c5:Nat)) (.int .u64 32)=some (.int .u64 ((Nat.shiftRight c5 32:Nat):Int)):=rP (n:=32) (by omega)
 have k17:=qQ (a:=c5) (b:=Nat.shiftRight c5 32) (by rw[l1];omega)
 rw[l1]at k17
 have k18:=Fq l2
 rw[fin]at k18
 have k19:=cN (n:=(c6:Int)) (by omega) (by omega)
 clear q1 q2 q3 p1 p2 p3 o2 n1 m1 l1
 refine y4 ?_;refine yM ?_;refine y3 ?_;refine y4 ?_;refine yM ?_;refine yW ?_
 refine yW ?_;refine yM ?_;refine yW ?_;refine yW ?_;refine yM ?_;refine y3 ?_;refine y4 ?_;refine yM ?_;refine yW ?_;refine yW ?_
 refine yM ?_;refine yW ?_;refine yW ?_;refine yM ?_;refine y3 ?_
 refine y4 ?_;refine yM ?_;refine yW ?_;refine yM ?_;refine yW ?_;refine yW ?_
 refine yM ?_;refine y3 ?_;refine y4 ?_;refine yM ?_;refine yM ?_;refine yW ?_
 refine yW ?_;refine yM ?_;refine y3 ?_;refine y4 ?_;refine yM ?_;refine yM ?_
 refine yW ?_;refine yW ?_;refine yM ?_;refine y3 ?_;refine y4 ?_
 refine yM ?_;refine yM ?_;refine yW ?_;refine yW ?_;refine yM ?_;refine y3 ?_;refine y4 ?_;refine yM ?_;refine ah (D0 (by exact rfl) (by assumption)) ?_;refine yW ?_;refine yM ?_;refine y3 ?_;refine aM ?_
 exact aD hr.log rfl rfl
theorem wrap_u64(n:Int):IntKind.u64.wrap n=n % 18446744073709551616:=by
 unfold IntKind.wrap
 simp[IntKind.signed,IntKind.bits]
theorem Bm(n:Nat):fI .u64 (n:Int)=((n % 18446744073709551616:Nat):Int):=by
 by_cases h:n<18446744073709551616
 ·rw[rC h,Nat.mod_eq_of_lt h]
 ·have e:((n:Nat):Int)=Int.ofNat n:=rfl
  rw[e]
  simp only[fI]
  rw[p8 h,cond_false,wrap_u64]
  rfl
theorem OE(hp:bI T)(hf:T 121=some f266){h:Heap}(hr:Rdy h)(hg:Tab h){x k m:Nat}(hx:x<U64)(hform:x=2 ^ k*(2*m+1)):Pu T 121 [.int .u64 (x:Nat)] h (.int .i64 (k:Nat)):=by
 refine .of hp hf hr rfl ?_
 obtain⟨hk,hland⟩:=v8 hform hx
 have hx0:0<x:=by
  rw[hform];exact Nat.mul_pos (Nat.pow_pos (by omega)) (by omega)
 have k0:aA .eql (.int .u64 (x:Nat)) (.int .u64 0)=some (.bool false):=wg (by omega)
 have k1:uj .neg (.int .u64 (x:Nat))=some (.int .u64 ((2 ^ 64-x:Nat):Int)):=by
  show some (Value.int .u64 (fI .u64 (0-(x:Int))))=_
  have:fI .u64 (0-(x:Int))=((2 ^ 64-x:Nat):Int):=by
   obtain⟨y,rfl⟩:∃y,x=y+1:=⟨x-1,by omega⟩
   have e:(0-((y+1:Nat):Int))=Int.negSucc y:=by omega
   rw[e]
   simp only[fI]
   rw[p8 (by omega),cond_false,wrap_u64,Int.negSucc_emod _ (by omega)]
   have:(y:Int) % 18446744073709551616=y:=Int.emod_eq_of_lt (by omega) (by unfold U64 at hx;omega)
   unfold U64 at hx
   omega
  rw[this]
 have k2:=pY (a:=x) (b:=2 ^ 64-x) hx (by omega)
 rw[hland]at k2
 have k3:aA .mul (.int .u64 ((2 ^ k:Nat):Int)) (.int .u64 285870213051353865)=some (.int .u64 (((2 ^ k*285870213051353865) % 18446744073709551616:Nat):Int)):=by
  show some (Value.int .u64 (fI .u64 (((2 ^ k:Nat):Int)*285870213051353865)))=_
  rw[←Bm]
  congr 2
 have k4:aA .shr (.int .u64 (((2 ^ k*285870213051353865) % 18446744073709551616:Nat):Int)) (.int .u64 58)=some (.int .u64 ((Nat.shiftRight ((2 ^ k*285870213051353865) % 18446744073709551616) 58:Nat):Int)):=rP (n:=58) (by omega)
 have hd:=KU ⟨k,hk⟩
 dsimp only at hd
 have e0:((2 ^ k*285870213051353865) % 18446744073709551616)>>>58=Nat.shiftRight ((2 ^ k*285870213051353865) % 18446744073709551616) 58:=rfl
 rw[e0]at hd
 generalize Nat.shiftRight ((2 ^ k*285870213051353865) % 18446744073709551616) 58=j at*
 have hj:j<64:=(List.getElem?_eq_some_iff.1 hd).1
 have e1:bD (xX.map fun n=>Value.int .u8 (n:Nat)) (0+j*1)=some (.int .u8 (k:Nat)):=by
  rw[cG,Nat.zero_add,Nat.mul_one,List.getElem?_map,hd];rfl
 have k5:=cN (n:=(k:Int)) (by omega) (by omega)
 have hg':h.get 0=some (.cells (xX.map fun n=> .int .u8 (n:Nat)) false 1):=hg
 refine y4 ?_;refine yM ?_;refine y3 ?_;refine an ?_;refine y4 ?_;refine yM ?_;refine yW ?_
 refine y3 ?_;refine yX ?_;refine bA ?_;refine bH ?_;refine y4 ?_;refine yM ?_;refine yM ?_;refine ah (MZ (by exact rfl) (by assumption)) ?_
 refine yW ?_;refine yW ?_;refine yW ?_
 refine ah (fk (i:=j) (k:= .u64) (KY hg) (by exact rfl) hj) ?_
 refine ah (dD (by exact rfl) (by assumption) (by assumption)) ?_;refine ah (D0 (by exact rfl) (by assumption)) ?_;refine yM ?_;refine y3 ?_;refine aM ?_
 exact aD hr.log rfl rfl
def inR(n a b:Int):Bool:=decide (a≤n∧n≤b)
theorem NP(hp:bI T)(hf:T 122=some f215){h:Heap}(hr:Rdy h)(n a b:Int):Pu T 122 [.int .i64 n, .int .i64 a, .int .i64 b] h (.bool (inR n a b)):=by
 refine .of hp hf hr rfl ?_
 unfold inR
 by_cases h1:a≤n
 ·by_cases h2:n≤b
  ·rw[decide_eq_true ⟨h1,h2⟩]
   refine y4 ?_;refine yM ?_;refine y3 ?_;refine y4 ?_;refine yM ?_;refine yM ?_
   refine yt ?_;refine yM ?_;refine yO ?_;refine yM ?_;refine yO ?_;refine yM ?_;refine yO ?_;refine yt ?_
   refine yT ?_;refine yM ?_;refine y3 ?_;refine aM ?_
   exact aD hr.log rfl rfl
  ·rw[decide_eq_false (fun q=>h2 q.2)]
   refine y4 ?_;refine yM ?_;refine y3 ?_;refine y4 ?_;refine yM ?_;refine yM ?_
   refine yt ?_;refine yM ?_;refine yO ?_;refine yM ?_;refine yO ?_;refine yM ?_;refine yO ?_;refine yf ?_
   refine yT ?_;refine yM ?_;refine y3 ?_;refine aM ?_
   exact aD hr.log rfl rfl
 ·rw[decide_eq_false (fun q=>h1 q.1)]
  refine y4 ?_;refine yM ?_;refine y3 ?_;refine y4 ?_;refine yM ?_;refine yM ?_
  refine yf ?_;refine yM ?_;refine yP ?_;refine yP ?_;refine yP ?_;refine yU ?_;refine yM ?_;refine y3 ?_;refine aM ?_
  exact aD hr.log rfl rfl
theorem BI(hp:bI T)(hf:T 26=some f90){h:Heap}(hr:Rdy h){a:List Nat}(ha:IsS a):Pu T 26 [sv a] h (.bool (decide (a=s0))):=by
 refine .of hp hf hr rfl ?_
 have k1:=dh ha.len
 have k2:=bU ha.len
 refine y4 ?_;refine yB ?_;refine yM ?_;refine y3 ?_;refine y4 ?_
 refine ah (dK (by exact rfl) (by(simp(disch:=first|omega|(simp only[z1,z2];omega))only[z3,z4,z5,z6,z7,z1,z2];exact rfl)) (by assumption) (by assumption)) ?_;refine ah (dS (by exact rfl)) ?_
 refine ah (pM (b:=s0) (by exact rfl) (by exact rfl) ha.len rfl) ?_
 refine yM ?_;refine y3 ?_;refine aM ?_
 exact aD hr.log rfl rfl
structure Ce where
 x:Int
 y:Int
 z:Int
 deriving DecidableEq
def ceL(c:Ce):List Value:=[.int .i64 c.x, .int .i64 c.y, .int .i64 c.z]
def ceV(c:Ce):Value:= .agg (ceL c).toArray
def inG(c:Ce):Bool:=decide ((0≤c.x∧c.x≤7)∧(0≤c.y∧c.y≤7)∧0≤c.z∧c.z≤7)
theorem CG(hp:bI T)(hf:T 76=some f126)(hm:T 122=some f215){h:Heap}(hr:Rdy h)(c:Ce):Pu T 76 [ceV c] h (.bool (inG c)):=by
 obtain⟨x,y,z⟩:=c
 refine .of hp hf hr rfl ?_
 have C:=fun n=>NP hp hm (.of (hr.wf.push (.cells (cellsOf (ceV ⟨x,y,z⟩)) true 1))) n 0 7
 unfold inG ceV ceL at*
 dsimp only at C⊢
 refine y4 ?_;refine yB ?_;refine yM ?_;refine y3 ?_;refine y4 ?_;refine yF ?_
 refine yL ?_
 refine yC ?_
 refine FW.pu (C x) ?_
 by_cases h1:0≤x∧x≤7
 ·rw[show inR x 0 7=true from decide_eq_true h1]
  refine yM ?_;refine yO ?_;refine yF ?_;refine yO ?_
  refine yL ?_;refine yO ?_
  refine yC ?_
  refine FW.pu (C y) ?_
  by_cases h2:0≤y∧y≤7
  ·rw[show inR y 0 7=true from decide_eq_true h2]
   refine yT ?_;refine yM ?_;refine yO ?_;refine yF ?_;refine yO ?_
   refine yL ?_;refine yO ?_
   refine yC ?_
   refine FW.pu (C z) ?_
   by_cases h3:0≤z∧z≤7
   ·rw[show inR z 0 7=true from decide_eq_true h3,decide_eq_true ⟨h1,h2,h3⟩]
    clear C
    refine yT ?_;refine yM ?_;refine y3 ?_;refine aM ?_
    exact aD hr.log rfl rfl
   ·rw[show inR z 0 7=false from decide_eq_false h3,decide_eq_false fun q=>h3 q.2.2]
    clear C
    refine yT ?_;refine yM ?_;refine y3 ?_;refine aM ?_
    exact aD hr.log rfl rfl
  ·rw[show inR y 0 7=false from decide_eq_false h2,decide_eq_false fun q=>h2 q.2.1]
   clear C
   refine yT ?_;refine yM ?_;refine yP ?_;refine yP ?_;refine yP ?_;refine yU ?_;refine yM ?_;refine y3 ?_;refine aM ?_
   exact aD hr.log rfl rfl
 ·rw[show inR x 0 7=false from decide_eq_false h1,decide_eq_false fun q=>h1 q.1]
  clear C
  refine yM ?_;refine yP ?_;refine yP ?_;refine yP ?_;refine yU ?_;refine yM ?_;refine yP ?_;refine yP ?_
  refine yP ?_;refine yU ?_;refine yM ?_;refine y3 ?_;refine aM ?_
  exact aD hr.log rfl rfl
theorem Li{n:Nat}{k:IntKind}(hn:n<64):aA .shl (.int .u64 1) (.int k (n:Nat))=some (.int .u64 ((2 ^ n:Nat):Int)):=by
 have e1:((n:Nat):Int)=Int.ofNat n:=rfl
 have e2:(1:Int)=Int.ofNat 1:=rfl
 rw[e1,e2]
 have:aA .shl (.int .u64 (Int.ofNat 1)) (.int k (Int.ofNat n))=some (.int .u64 (.ofNat (Nat.mod (Nat.shiftLeft 1 (Nat.min n 64)) 18446744073709551616))):=rfl
 rw[this,show Nat.min n 64=n from Nat.min_eq_left (by omega)]
 have h2:Nat.shiftLeft 1 n=2 ^ n:=by
  have:=Nat.shiftLeft_eq 1 n
  rw[Nat.one_mul]at this;exact this
 have h3:2 ^ n<18446744073709551616:=(show 2 ^ n<2 ^ 64 from Nat.pow_lt_pow_right (by omega) hn)
 rw[h2,show Nat.mod (2 ^ n) 18446744073709551616=2 ^ n from Nat.mod_eq_of_lt h3]
 rfl
theorem zn{n:Nat}(hn:n<64):2 ^ n<U64:=(show 2 ^ n<2 ^ 64 from Nat.pow_lt_pow_right (by omega) hn)
def iE(z i:Nat):Ce:=⟨(i % 8:Nat),(i / 8:Nat),(z:Nat)⟩
theorem lu{c:Ce}(h:inG c=true):∃z i:Nat,z<8∧i<64∧c=iE z i:=by
 obtain⟨x,y,z⟩:=c
 have h:=of_decide_eq_true h
 dsimp only at h
 refine⟨z.toNat,(8*y+x).toNat,by omega,by omega,?_⟩
 unfold iE
 rw[Ce.mk.injEq]
 refine⟨by omega,by omega,by omega⟩
theorem E4{z i:Nat}(hz:z<8)(hi:i<64):inG (iE z i)=true:=by
 apply decide_eq_true
 unfold iE
 dsimp only
 omega
theorem KK(hp:bI T)(hf:T 77=some f127){h:Heap}(hr:Rdy h){z i:Nat}(hi:i<64):Pu T 77 [ceV (iE z i)] h (.int .u64 ((2 ^ i:Nat):Int)):=by
 refine .of hp hf hr rfl ?_
 have k1:aA .mul (.int .i64 8) (.int .i64 ((i / 8:Nat):Int))=some (.int .i64 (8*((i / 8:Nat):Int))):=Ks (by omega) (by omega)
 have k2:aA .add (.int .i64 (8*((i / 8:Nat):Int))) (.int .i64 ((i % 8:Nat):Int))=some (.int .i64 ((i:Nat):Int)):=nk (by rw[cN]<;>omega)
 have k3:=Li (k:= .i64) hi
 unfold ceV ceL iE
 dsimp only
 refine y4 ?_;refine yB ?_;refine yM ?_;refine y3 ?_;refine y4 ?_;refine yF ?_
 refine yL ?_;refine yW ?_
 refine yF ?_;refine yL ?_
 refine yW ?_;refine yW ?_;refine yM ?_;refine y3 ?_;refine aM ?_
 exact aD hr.log rfl rfl
def jg(s:List Nat)(c:Ce):Bool:=inG c&&Nat.testBit (s.getD c.z.toNat 0) (8*c.y.toNat+c.x.toNat)
theorem jF{s:List Nat}{z i:Nat}(hz:z<8)(hi:i<64):jg s (iE z i)=Nat.testBit (s.getD z 0) i:=by
 unfold jg
 rw[E4 hz hi,Bool.true_and]
 unfold iE
 dsimp only
 congr 1;omega
theorem kK{s:List Nat}{i:Nat}(hi:i<s.length):s[i]? =some (s.getD i 0):=by
 rw[List.getD_eq_getElem?_getD,List.getElem?_eq_getElem hi];rfl
theorem IsS.lZ{s:List Nat}(hs:IsS s)(i:Nat):s.getD i 0<U64:=by
 rw[List.getD_eq_getElem?_getD]
 by_cases hi:i<s.length
 ·rw[List.getElem?_eq_getElem hi];exact hs.lt _ (List.getElem_mem hi)
 ·rw[List.getElem?_eq_none (by omega)];show 0<U64;decide
end Go.A.Pk
end
section
namespace Go.A
variable {T:Nat→Option af}
def C6(g:Nat)(vs:List Value)(n:Nat):Heap:=⟨[(g, .cells vs false 1)],n,[]⟩
theorem nE{g n:Nat}{vs:List Value}(x:Nat):(C6 g vs n).get x=if x=g then some (.cells vs false 1)else none:=by
 show eO [(g, .cells vs false 1)] x=_
 simp only[eO,cond_eq_ite,beq_eq,decide_eq_true_eq]
 by_cases h:g=x
 ·rw[if_pos h,if_pos h.symm]
 ·rw[if_neg h,if_neg (Ne.symm h)]
theorem R.C6{P:Program}{μ:Mu}{h:Heap}{w:World}(hR:R P μ h w){g n:Nat}{vs:List Value}(hg:h.get g=some (.cells vs false 1))(hs:cV vs=true)(hn:P.globals.size≤n)(hgn:g<n):
 R P (fun b=>if b=g then μ g else Option.none) (A.C6 g vs n) w:=by
 refine⟨hn,fun x o hx ho=> ?_,fun b o hb=> ?_,fun b o hb=> ?_,fun b k hb=> ?_,fun b b' o o' k k' hne hb hb'=> ?_⟩
 ·rw[nE]at ho
  split at ho
  ·rename_i e;subst e;cases ho
   obtain⟨k,a,b,c,x⟩:=hR.jU _ _ hx hg
   exact⟨k,by rw[if_pos rfl];exact a,b,c,x⟩
  ·cases ho
 ·rw[nE]at hb
  split at hb
  ·rename_i e;subst e;cases hb
   intro k hk
   replace hk:(if b=b then μ b else Option.none)=some k:=hk
   rw[if_pos rfl]at hk
   obtain⟨h0,c,el,fz,z1,z2,z3,z4,z5⟩:=hR.obj _ _ hg k hk
   refine⟨h0,c,el,fz,z1,z2,z3,fun i hi=> ?_,z5⟩
   obtain⟨v',y1,y2⟩:=z4 i hi
   have hsc:=xg hs i hi
   exact⟨v',y1,by rw[(VR.lM hsc).2 _ y2];exact(VR.lM hsc).1⟩
  ·cases hb
 ·rw[nE]at hb
  split at hb
  ·rename_i e;subst e;exact hgn
  ·cases hb
 ·replace hb:(if b=g then μ g else Option.none)=some k:=hb
  split at hb
  ·rename_i e;subst e;exact⟨hgn,(hR.dom _ _ hb).2⟩
  ·cases hb
 ·rw[nE]at hb hb'
  split at hb
  ·rename_i e
   split at hb'
   ·rename_i e';exact(hne (e.trans e'.symm)).elim
   ·cases hb'
  ·cases hb
theorem LR.Aw{μ:Mu}:∀{args args':List Value},(∀a∈args,cT a=true)→LR μ args args'→args'=args
 |[],_,_,h=>by cases h;rfl
 |a::l,_,hn,h=>by
  cases h with
  |cons h1 h2=>rw[(VR.cT (hn a List.mem_cons_self)).2 _ h1,LR.Aw (fun x hx=>hn x (List.mem_cons_of_mem _ hx)) h2]
theorem LR.tG{μ:Mu}:∀{args:List Value},(∀a∈args,cT a=true)→LR μ args args
 |[],_=> .nil
 |a::l,hn=> .cons (VR.cT (hn a List.mem_cons_self)).1 (LR.tG fun x hx=>hn x (List.mem_cons_of_mem _ hx))
theorem Gr{P:Program}(hT:dY P T){f g n:Nat}{vs:List Value}{fn:Func}{p:List Value→Heap→Option (Value×Heap)}(hf:P.funcs[f]? =some fn)(hname:fn.name≠ "runtime.NumGoroutine")(hb:fn.body.isSome=true)(hn:P.globals.size≤n)(hgn:g<n)(hnc:gK (T f)=false)(hs:cV vs=true)
 (H:∀args v h h',p args h=some (v,h')→h'=h∧h.get g=some (.cells vs false 1)∧(∀a∈args,cT a=true)∧cT v=true∧CW T f args (C6 g vs n) fun r _=>r= .ret v):zR P f p:=by
 intro args h u h' hp _
 obtain⟨rfl,hg,ha,hu,r,h1,⟨m,hr⟩,rfl⟩:=H _ _ _ _ hp
 refine⟨.refl _ _,fun μ w args' hR hargs=> ?_⟩
 rw[hargs.Aw ha]
 have hrun:=hr m (Nat.le_refl _)
 have:=mM hT hrun rfl hnc (hR.C6 hg hs hn hgn) (args':=args) (.tG ha)
 refine oI hf hname hb this fun e w' hq=> ?_
 obtain⟨μ',q1,q2,q3⟩:=hq
 cases e with
 |returned v'=>
  have hv':VR μ' u v':=q1
  rw[(VR.cT hu).2 _ hv']
  have hk:∀r,r<w.heap.size→w'.heap[r]? =w.heap[r]? :=fun r hr=>q3.keep r hr fun⟨b,o,k,k1,k2,k3,_⟩=>by
   rw[nE]at k1
   split at k1
   ·cases k1;cases k3
   ·cases k1
  exact⟨μ,(VR.cT hu).1,(hR.grow q3.le hk q3.same).1,(hR.grow q3.le hk q3.same).2⟩
 |panicked _=>exact q1.elim
 |outgrown=>exact q1.elim
theorem Gq{P:Program}(hT:dY P T){f n:Nat}{fn:Func}{p:List Value→Heap→Option (Value×Heap)}(hf:P.funcs[f]? =some fn)(hname:fn.name≠ "runtime.NumGoroutine")(hb:fn.body.isSome=true)(hn:P.globals.size≤n)(hnc:gK (T f)=false)
 (H:∀args v h h',p args h=some (v,h')→h'=h∧(∀a∈args,cT a=true)∧cT v=true∧CW T f args ⟨[],n,[]⟩ fun r _=>r= .ret v):zR P f p:=by
 intro args h u h' hp _
 obtain⟨rfl,ha,hu,r,h1,⟨m,hr⟩,rfl⟩:=H _ _ _ _ hp
 refine⟨.refl _ _,fun μ w args' hR hargs=> ?_⟩
 rw[hargs.Aw ha]
 have hrun:=hr m (Nat.le_refl _)
 have:=mM hT hrun rfl hnc (R.none (P:=P) (w:=w) hn) (args':=args) (.tG ha)
 refine oI hf hname hb this fun e w' hq=> ?_
 obtain⟨μ',q1,q2,q3⟩:=hq
 cases e with
 |returned v'=>
  have hv':VR μ' u v':=q1
  rw[(VR.cT hu).2 _ hv']
  have hk:∀r,r<w.heap.size→w'.heap[r]? =w.heap[r]? :=fun r hr=>q3.keep r hr fun⟨b,o,k,k1,_⟩=>by cases k1
  exact⟨μ,(VR.cT hu).1,(hR.grow q3.le hk q3.same).1,(hR.grow q3.le hk q3.same).2⟩
 |panicked _=>exact q1.elim
 |outgrown=>exact q1.elim
end Go.A
end
section
set_option maxRecDepth 100000
namespace Go.A.Pk
variable {T:Nat→Option af}
def sF:List Value→Option (List Nat)
 |[]=>some []
 | .int .u64 (.ofNat n)::l=>bif Nat.blt n 18446744073709551616 then match sF l with
  |some m=>some (n::m)
  |none=>none
   else none
 |_=>none
def Jp(v:Value):Option (List Nat):=
 match v with
 | .agg c=>match sF c.toList with
   |some l=>bif Nat.beq (bO l) 8 then some l else none
   |none=>none
 |_=>none
theorem tK:∀{l:List Value} {m:List Nat},sF l=some m→l=us m∧∀x∈m,x<U64
 |[],m,h=>by cases h;exact⟨rfl,fun _ h=>by simp at h⟩
 |v::l,m,h=>by
  unfold sF at h
  split at h
  ·rename_i heq;cases heq
  ·rename_i n l' heq
   cases heq
   simp only[cond_eq_ite,blt_eq,Option.ite_none_right_eq_some,decide_eq_true_eq]at h
   obtain⟨hn,h⟩:=h
   split at h
   ·rename_i m' hm
    cases h
    obtain⟨e,hl⟩:=tK hm
    refine⟨by rw[e];rfl,fun x hx=> ?_⟩
    rcases List.mem_cons.1 hx with rfl|hx
    ·exact hn
    ·exact hl x hx
   ·cases h
  ·cases h
theorem Cc{v:Value}{s:List Nat}(h:Jp v=some s):v=sv s∧IsS s:=by
 unfold Jp at h
 split at h
 ·rename_i c
  split at h
  ·rename_i l hl
   simp only[cond_eq_ite,beq_eq,bN,Option.ite_none_right_eq_some,decide_eq_true_eq]at h
   obtain⟨h8,h⟩:=h
   cases h
   obtain⟨e,hlt⟩:=tK hl
   refine⟨?_,h8,hlt⟩
   show Value.agg c= .agg (us s).toArray
   rw[←e]
  ·cases h
 ·cases h
def inB:List Nat→List Nat→Bool
 |[],[]=>true
 |x::xs,y::ys=>bif Nat.beq (Nat.land x y) x then inB xs ys else false
 |_,_=>false
theorem E3:∀{a b:List Nat},a.length=b.length→inB a b=sIn a b
 |[],[],_=>rfl
 |x::xs,y::ys,h=>by
  have ih:=E3 (a:=xs) (b:=ys) (by simpa using h)
  simp only[inB,ih,cond_eq_ite,beq_eq,decide_eq_true_eq]
  unfold sIn kP uz
  simp only[List.zipWith_cons_cons,List.cons.injEq]
  by_cases hx:Nat.land x y=x
  ·simp[hx]
  ·simp[hx]
 |[],_::_,h=>by simp at h
 |_::_,[],h=>by simp at h
def pIn:List Value→Heap→Option (Value×Heap)
 |[a,b],h=>match Jp a,Jp b with
  |some x,some y=>some (.bool (inB x y),h)
  |_,_=>none
 |_,_=>none
theorem IV(hp:bI T)(hf:T 39=some f35)(hm:T 73=some f121){n:Nat}:∀args v h h',pIn args h=some (v,h')→h'=h∧(∀a∈args,cT a=true)∧cT v=true∧CW T 39 args ⟨[],n,[]⟩ fun r _=>r= .ret v:=by
 intro args v h h' hq
 unfold pIn at hq
 split at hq
 ·rename_i a b
  split at hq
  ·rename_i x y hx hy
   cases hq
   obtain⟨rfl,sx⟩:=Cc hx
   obtain⟨rfl,sy⟩:=Cc hy
   refine⟨rfl,fun z hz=> ?_,rfl,?_⟩
   ·simp only[List.mem_cons,List.not_mem_nil,or_false]at hz
    rcases hz with rfl|rfl<;>exact iA _
   ·rw[E3 (sx.len.trans sy.len.symm)]
    refine CW.mono (K5 hp hf hm (h:=⟨[],n,[]⟩) ⟨⟨by simp,by simp⟩,rfl⟩ sx sy) fun r h hq=>hq.1
  ·cases hq
 ·cases hq
end Go.A.Pk
end
