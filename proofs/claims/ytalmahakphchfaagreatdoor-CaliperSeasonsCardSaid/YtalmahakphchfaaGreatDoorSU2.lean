/- Walks of functions, plain laws, the table. -/
import Derived.Test.YtalmahakphchfaaGreatDoorSU1
import Derived.Test.YtalmahakphchfaaGreatDoorSU0
import Derived.Test.YtalmahakphchfaaGreatDoorSF
import Derived.Test.YtalmahakphchfaaGreatDoorSD
import Derived.Sort.Row
import Derived.Sort.Grow
import Derived.Test.YtalmahakphchfaaGreatDoorSV
set_option linter.all false
section
set_option maxRecDepth 100000
namespace Go.A.Pk
variable {T:Nat→Option af}
structure J8 (T:Nat→Option af):Prop where
 fi:Bu T
 f33:T 15=some f33
 f89:T 25=some f89
 f90:T 26=some f90
theorem E8(F:J8 T){h:Heap}(hr:Rdy h){w:List Nat×List Nat}(hw:IsW w):Pu T 25 [wV w] h (.bool (sIn w.1 w.2)):=by
 have hp:=F.fi.ft.li.p
 refine .of hp F.f89 hr rfl ?_
 have hwc:cellsOf (wV w)=wL w:=by show(wL w).toArray.toList=_;simp
 have g0:(h.push (.cells (cellsOf (wV w)) true 1)).get h.next=some (.cells (wL w) true 1):=by rw[hwc];exact z3 h _
 have W:WF (h.push (.cells (cellsOf (wV w)) true 1)):=hr.wf.push _
 have hL:(h.push (.cells (cellsOf (wV w)) true 1)).log=[]:=hr.log
 refine y4 ?_;refine yB ?_;refine yM ?_;refine y3 ?_
 generalize(h.push (.cells (cellsOf (wV w)) true 1))=H at*
 have C:=K5 hp F.fi.ft.f35 F.fi.ft.f121 (h:={H with log:=[]}) (.of W) hw.a hw.b
 have wa:=Mz hw
 have wb:=JG hw
 have wka:=bU hw.a.len
 have wkb:=bU hw.b.len
 refine y4 ?_;refine yF ?_;refine yV ?_;refine yF ?_;refine yV ?_
 refine yC ?_
 refine FW.pu C ?_
 refine yM ?_;refine y3 ?_;refine aM ?_
 exact aD hL rfl rfl
end Go.A.Pk
end
section
set_option maxRecDepth 100000
namespace Go.A.Pk
theorem rj{a b:List Nat}(ha:IsS a)(hb:IsS b)(c:Ce):jg (kP a b) c=(jg a c&&jg b c):=by
 by_cases hc:inG c=true
 ·obtain⟨z,i,hz,hi,rfl⟩:=lu hc
  rw[jF hz hi,jF hz hi,jF hz hi]
  unfold kP uz
  rw[yp ha hb hz]
  exact Nat.testBit_and ..
 ·rw[jd hc,jd hc,jd hc];rfl
theorem vV{a b:List Nat}(ha:IsS a)(hb:IsS b)(h:∀z i,z<8→i<64→jg a (iE z i)=jg b (iE z i)):a=b:=by
 apply List.ext_getElem?
 intro z
 rcases Nat.lt_or_ge z 8 with hz|hz
 ·rw[kK (by rw[ha.len];exact hz),kK (by rw[hb.len];exact hz)]
  congr 1
  apply Nat.eq_of_testBit_eq
  intro i
  rcases Nat.lt_or_ge i 64 with hi|hi
  ·have:=h z i hz hi
   rwa [jF hz hi,jF hz hi]at this
  ·have big:∀x:Nat,x<U64→x.testBit i=false:=fun x hx=>Nat.testBit_lt_two_pow (Nat.lt_of_lt_of_le hx (show 2 ^ 64≤2 ^ i from Nat.pow_le_pow_right (by omega) hi))
   rw[big _ (ha.lZ z),big _ (hb.lZ z)]
 ·rw[List.getElem?_eq_none (by rw[ha.len];exact hz),List.getElem?_eq_none (by rw[hb.len];exact hz)]
theorem EE{z i:Nat}(hz:z<8)(hi:i<64):iE z i∈(List.range 512).map ceN:=by
 rw[←vI hi]
 exact List.mem_map_of_mem (List.mem_range.2 (by omega))
def mlo(f:Ce→Int)(m:Int)(l:List Ce):Int:=l.foldl (fun m c=>mi m (f c)) m
def mhi(f:Ce→Int)(m:Int)(l:List Ce):Int:=l.foldl (fun m c=>mx m (f c)) m
theorem Lj(a b:Int):mi a b≤a:=by unfold mi;split<;>omega
theorem Ll(a b:Int):mi a b≤b:=by unfold mi;split<;>omega
theorem Lo(a b:Int):a≤mx a b:=by unfold mx;split<;>omega
theorem Lp(a b:Int):b≤mx a b:=by unfold mx;split<;>omega
theorem N1{k a b:Int}(h1:k≤a)(h2:k≤b):k≤mi a b:=by unfold mi;split<;>omega
theorem N2{k a b:Int}(h1:a≤k)(h2:b≤k):mx a b≤k:=by unfold mx;split<;>omega
theorem As(f:Ce→Int):∀(l:List Ce) (m:Int),mlo f m l≤m∧∀c∈l,mlo f m l≤f c
 |[],m=>⟨Int.le_refl _,fun c hc=>by cases hc⟩
 |c::l,m=>by
  obtain⟨h1,h2⟩:=As f l (mi m (f c))
  refine⟨Int.le_trans h1 (Lj _ _),fun d hd=> ?_⟩
  rcases List.mem_cons.1 hd with rfl|hd
  ·exact Int.le_trans h1 (Ll _ _)
  ·exact h2 d hd
theorem Fy(f:Ce→Int){k:Int}:∀(l:List Ce) (m:Int),k≤m→(∀c∈l,k≤f c)→k≤mlo f m l
 |[],_,h,_=>h
 |c::l,m,h,hl=>Fy f l (mi m (f c)) (N1 h (hl c List.mem_cons_self)) fun d hd=>hl d (List.mem_cons_of_mem _ hd)
theorem Ar(f:Ce→Int):∀(l:List Ce) (m:Int),m≤mhi f m l∧∀c∈l,f c≤mhi f m l
 |[],m=>⟨Int.le_refl _,fun c hc=>by cases hc⟩
 |c::l,m=>by
  obtain⟨h1,h2⟩:=Ar f l (mx m (f c))
  refine⟨Int.le_trans (Lo _ _) h1,fun d hd=> ?_⟩
  rcases List.mem_cons.1 hd with rfl|hd
  ·exact Int.le_trans (Lp _ _) h1
  ·exact h2 d hd
theorem Fv(f:Ce→Int){k:Int}:∀(l:List Ce) (m:Int),m≤k→(∀c∈l,f c≤k)→mhi f m l≤k
 |[],_,h,_=>h
 |c::l,m,h,hl=>Fv f l (mx m (f c)) (N2 h (hl c List.mem_cons_self)) fun d hd=>hl d (List.mem_cons_of_mem _ hd)
theorem wq(f:Ce→Int){l l':List Ce}(h:∀c∈l,c∈l')(m:Int):mlo f m l'≤mlo f m l:=
 Fy f l m (As f l' m).1 fun c hc=>(As f l' m).2 c (h c hc)
theorem wj(f:Ce→Int){l l':List Ce}(h:∀c∈l,c∈l')(m:Int):mhi f m l≤mhi f m l':=
 Fv f l m (Ar f l' m).1 fun c hc=>(Ar f l' m).2 c (h c hc)
theorem BF:∀(l:List Ce) (b:Bx),l.foldl xR b=⟨⟨mlo (·.x) b.lo.x l,mlo (·.y) b.lo.y l,mlo (·.z) b.lo.z l⟩,⟨mhi (·.x) b.hi.x l,mhi (·.y) b.hi.y l,mhi (·.z) b.hi.z l⟩⟩
 |[],b=>rfl
 |c::l,b=>by rw[List.foldl_cons,BF l (xR b c)];rfl
theorem EA(l:List Ce):bxS l=⟨⟨mlo (·.x) 7 l,mlo (·.y) 7 l,mlo (·.z) 7 l⟩,⟨mhi (·.x) 0 l,mhi (·.y) 0 l,mhi (·.z) 0 l⟩⟩:=BF l bx0
def Sub(a b:List Nat):Prop:=∀c,jg a c=true→jg b c=true
theorem Sub.cells{a b:List Nat}(h:Sub a b){n:Nat}{c:Ce}(hc:c∈b9 a n):c∈b9 b n:=by
 obtain⟨h1,h2⟩:=List.mem_filter.1 hc
 exact List.mem_filter.2 ⟨h1,h c h2⟩
theorem filter_le{α:Type}{p q:α→Bool}(h:∀x,p x=true→q x=true):∀l:List α,(l.filter p).length≤(l.filter q).length
 |[]=>Nat.le_refl _
 |x::l=>by
  have ih:=filter_le h l
  rw[List.filter_cons,List.filter_cons]
  by_cases hp:p x=true
  ·rw[if_pos hp,if_pos (h x hp)];simpa using ih
  ·rw[if_neg hp]
   split
   ·exact Nat.le_succ_of_le ih
   ·exact ih
theorem Sub.cnt{a b:List Nat}(h:Sub a b):eR a≤eR b:=filter_le h _
theorem wY{a b:List Nat}(ha:IsS a)(hb:IsS b):sIn a b=true↔Sub a b:=by
 unfold sIn
 rw[decide_eq_true_eq]
 constructor
 ·intro h c hc
  have e:jg (kP a b) c=jg a c:=by rw[h]
  rw[rj ha hb,hc,Bool.true_and]at e
  exact e
 ·intro h
  refine vV (ha.meet hb) ha fun z i hz hi=> ?_
  rw[rj ha hb]
  cases hc:jg a (iE z i)with
  |false=>rfl
  |true=>rw[h _ hc];rfl
theorem Bq{lo hi lo' hi' z:Int}(h1:lo'≤lo)(h2:hi≤hi')(h:z∈zr lo hi):z∈zr lo' hi':=by
 obtain⟨n,hn,rfl⟩:=List.mem_map.1 h
 have hn:=List.mem_range.1 hn
 refine List.mem_map.2 ⟨(lo+(n:Nat)-lo').toNat,List.mem_range.2 (by omega),by omega⟩
theorem CB{a a' b:List Nat}(ha:IsS a)(ha':IsS a')(h:Sub a a'){f:Fi}(hf:f∈iK a b):f∈iK a' b:=by
 unfold iK at hf⊢
 split at hf
 ·cases hf
 ·rename_i hn
  have h0:¬a=s0:=fun q=>hn (.inl q)
  have h0':¬a'=s0:=fun q=>h0 (vV ha lK fun z i hz hi=>by
   cases hc:jg a (iE z i)with
   |false=>rw[wX]
   |true=>
    have:=h _ hc
    rw[q]at this
    rw[this])
  have hcn:¬eR a'<eR b:=fun q=>hn (.inr (Nat.lt_of_le_of_lt h.cnt q))
  rw[if_neg (fun q=>q.elim h0' hcn)]
  obtain⟨t,ht,hf⟩:=List.mem_flatMap.1 hf
  refine List.mem_flatMap.2 ⟨t,ht,?_⟩
  have e1:(j6 a).1=bxS (b9 a 512):=by unfold j6;rw[if_neg h0]
  have e2:(j6 a').1=bxS (b9 a' 512):=by unfold j6;rw[if_neg h0']
  have hs:∀c∈b9 a 512,c∈b9 a' 512:=fun c hc=>h.cells hc
  unfold uv at hf⊢
  rw[e1,EA]at hf
  rw[e2,EA]
  unfold KZ at hf⊢
  obtain⟨z,hz,hf⟩:=List.mem_flatMap.1 hf
  have m1:=wq (·.z) hs 7
  have m2:=wj (·.z) hs 0
  have m3:=wq (·.y) hs 7
  have m4:=wj (·.y) hs 0
  have m5:=wq (·.x) hs 7
  have m6:=wj (·.x) hs 0
  refine List.mem_flatMap.2 ⟨z,Bq (by dsimp only;omega) (by dsimp only;omega) hz,?_⟩
  unfold Ac at hf⊢
  obtain⟨y,hy,hf⟩:=List.mem_flatMap.1 hf
  refine List.mem_flatMap.2 ⟨y,Bq (by dsimp only;omega) (by dsimp only;omega) hy,?_⟩
  unfold vP at hf⊢
  obtain⟨x,hx,hf⟩:=List.mem_flatMap.1 hf
  refine List.mem_flatMap.2 ⟨x,Bq (by dsimp only;omega) (by dsimp only;omega) hx,?_⟩
  unfold zJ at hf⊢
  split at hf
  ·rename_i hin
   have hl:=pW (ug b t) (j6 (kG b t)).1.lo.z.toNat z (8*y+x) ((j6 (kG b t)).1.hi.z-(j6 (kG b t)).1.lo.z+1).toNat
   have hin2:sIn (ni (kG b t) (j6 (kG b t)).1 x y z) a'=true:=(wY hl ha').2 fun c hc=>h c ((wY hl ha).1 hin c hc)
   rw[if_pos hin2];exact hf
  ·cases hf
theorem CA{a a' b:List Nat}(ha:IsS a)(ha':IsS a')(h:Sub a a')(hf:jt a b=true):jt a' b=true:=by
 unfold jt at hf⊢
 rw[Bool.or_eq_true]at hf⊢
 rcases hf with hf|hf
 ·exact .inl hf
 ·right
  cases hq:iK a b with
  |nil=>rw[hq]at hf;cases hf
  |cons f r=>
   have:=CB ha ha' h (f:=f) (by rw[hq];exact List.mem_cons_self)
   cases hq':iK a' b with
   |nil=>rw[hq']at this;cases this
   |cons _ _=>rfl
end Go.A.Pk
end
section
set_option maxRecDepth 100000
namespace Go.A.Pk
variable {T:Nat→Option af}
def shC(x y z:Int)(c:Ce):Ce:=⟨c.x+x,c.y+y,c.z+z⟩
theorem Cz{s:List Nat}(hs:IsS s)(h:b9 s 512=[]):s=s0:=by
 refine vV hs lK fun z i hz hi=> ?_
 rw[wX]
 cases hc:jg s (iE z i)with
 |false=>rfl
 |true=>
  have:iE z i∈b9 s 512:=List.mem_filter.2 ⟨List.mem_map.2 ⟨z*64+i,List.mem_range.2 (by omega),vI hi⟩,hc⟩
  rw[h]at this;cases this
end Go.A.Pk
end
section
set_option maxRecDepth 100000
namespace Go.A.Pk
theorem CM{s:List Nat}{c:Ce}:c∈b9 s 512↔jg s c=true:=by
 constructor
 ·intro h;exact(List.mem_filter.1 h).2
 ·intro h
  have hc:inG c=true:=by
   cases hq:inG c with
   |true=>rfl
   |false=>rw[jd (by rw[hq];simp)]at h;cases h
  obtain⟨z,i,hz,hi,rfl⟩:=lu hc
  exact List.mem_filter.2 ⟨EE hz hi,h⟩
theorem Dt{s:List Nat}(hs:IsS s)(h0:¬s=s0):∃c,jg s c=true:=by
 cases hl:b9 s 512 with
 |nil=>exact absurd (Cz hs hl) h0
 |cons c l=>exact⟨c,CM.1 (by rw[hl];exact List.mem_cons_self)⟩
structure Rng (b:Bx) (x y z:Int):Prop where
 x:0≤b.lo.x+x∧b.hi.x+x≤7
 y:0≤b.lo.y+y∧b.hi.y+y≤7
 z:0≤b.lo.z+z∧b.hi.z+z≤7
end Go.A.Pk
end
section
set_option maxRecDepth 100000
namespace Go.A.Pk
variable {T:Nat→Option af}
def ssL(l:List (List Nat)):List Value:=l.flatMap us
structure SsQ (h:Heap) (v:Value) (l:List (List Nat)):Prop where
 sl:cA h 8 v l.length (ssL l)
 ok:∀s∈l,IsS s
theorem SsQ.ext{h h':Heap}{v:Value}{l:List (List Nat)}(s:SsQ h v l)(x:Ext h h'):SsQ h' v l:=⟨s.sl.ext x,s.ok⟩
theorem Kx:∀{l:List (List Nat)} {i:Nat} {x:List Nat},(∀s∈l,IsS s)→l[i]? =some x→((ssL l).drop (i*8)).take 8=us x
 |[],i,x,_,h=>by simp at h
 |c::l,0,x,hl,h=>by
  simp at h;subst h
  have e:ssL (c::l)=us c++ssL l:=rfl
  have e8:(us c).length=8:=by rw[aG,(hl c List.mem_cons_self).len]
  rw[e,Nat.zero_mul,List.drop_zero,List.take_append_of_le_length (by omega),List.take_of_length_le (by omega)]
 |c::l,i+1,x,hl,h=>by
  have e:ssL (c::l)=us c++ssL l:=rfl
  have e8:(us c).length=8:=by rw[aG,(hl c List.mem_cons_self).len]
  have e2:(us c++ssL l).drop 8=ssL l:=by rw[←e8];exact List.drop_left
  rw[e,show(i+1)*8=8+i*8 by omega,←List.drop_drop,e2]
  exact Kx (fun s hs=>hl s (List.mem_cons_of_mem _ hs)) (by simpa using h)
theorem SsQ.elem{h:Heap}{v:Value}{l:List (List Nat)}(s:SsQ h v l){i:Nat}{x:List Nat}(hi:l[i]? =some x):
 ∃b o c vs own t,v= .slice (some ⟨b,o,none⟩) l.length c∧h.get b=some (.cells vs own t)∧b<h.next∧bT 8 (bS (o+i*8) vs)=us x:=by
 have hlt:=(List.getElem?_eq_some_iff.1 hi).1
 rcases cA.inv s.sl with⟨_,_,h0,_⟩|⟨b,o,cap,hv,s1,hc⟩
 ·omega
 ·obtain⟨vs,own,t,g1,g2⟩:=s1.obj
  refine⟨b,o,cap,vs,own,t,hv,g1,s1.lt,?_⟩
  rw[←Kx s.ok hi,←g2]
  simp only[dy,cK,List.drop_take,List.take_take,List.drop_drop]
  congr 1;omega
end Go.A.Pk
end
section
namespace Go.A.Pk
open Go.Sort
variable {P:Program}
end Go.A.Pk
end
section
set_option maxRecDepth 100000
namespace Go.A.Pk
variable {T:Nat→Option af}
def r9(P:List Nat→Bool):List (List Nat)→Nat→Int
 |[],_=> -1
 |r::l,i=>if P r then(i:Int)else r9 P l (i+1)
end Go.A.Pk
end
