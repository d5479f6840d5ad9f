/- Walks of functions, plain laws, the table. -/
import Derived.Test.YtgffeapobcfigaaGreatDoorNU1
import Derived.Test.YtgffeapobcfigaaGreatDoorNU0
import Derived.Test.YtgffeapobcfigaaGreatDoorNF
import Derived.Test.YtgffeapobcfigaaGreatDoorND
import Derived.Sort.Row
import Derived.Sort.Grow
import Derived.Test.YtgffeapobcfigaaGreatDoorNV
set_option linter.all false
section
set_option maxRecDepth 100000
namespace Go.A.Pk
theorem u9{a b:List Nat}(ha:IsS a)(hb:IsS b)(c:Ce):dY (oh a b) c=(dY a c&&dY b c):=by
 by_cases hc:inG c=true
 ·obtain⟨z,i,hz,hi,rfl⟩:=hM hc
  rw[fR hz hi,fR hz hi,fR hz hi]
  unfold oh qd
  rw[Ab ha hb hz]
  exact Nat.testBit_and ..
 ·rw[ia hc,ia hc,ia hc];rfl
theorem sU{a b:List Nat}(ha:IsS a)(hb:IsS b)(h:∀z i,z<8→i<64→dY a (dX z i)=dY b (dX z i)):a=b:=by
 apply List.ext_getElem?
 intro z
 rcases Nat.lt_or_ge z 8 with hz|hz
 ·rw[jC (by rw[ha.len];exact hz),jC (by rw[hb.len];exact hz)]
  congr 1
  apply Nat.eq_of_testBit_eq
  intro i
  rcases Nat.lt_or_ge i 64 with hi|hi
  ·have:=h z i hz hi
   rwa [fR hz hi,fR hz hi]at this
  ·have big:∀x:Nat,x<U64→x.testBit i=false:=fun x hx=>Nat.testBit_lt_two_pow (Nat.lt_of_lt_of_le hx (show 2 ^ 64≤2 ^ i from Nat.pow_le_pow_right (by omega) hi))
   rw[big _ (ha.jF z),big _ (hb.jF z)]
 ·rw[List.getElem?_eq_none (by rw[ha.len];exact hz),List.getElem?_eq_none (by rw[hb.len];exact hz)]
theorem EL{z i:Nat}(hz:z<8)(hi:i<64):dX z i∈(List.range 512).map ceN:=by
 rw[←xS hi]
 exact List.mem_map_of_mem (List.mem_range.2 (by omega))
def mlo(f:Ce→Int)(m:Int)(l:List Ce):Int:=l.foldl (fun m c=>mi m (f c)) m
def mhi(f:Ce→Int)(m:Int)(l:List Ce):Int:=l.foldl (fun m c=>mx m (f c)) m
theorem MA(a b:Int):mi a b≤a:=by unfold mi;split<;>omega
theorem Ml(a b:Int):mi a b≤b:=by unfold mi;split<;>omega
theorem MQ(a b:Int):a≤mx a b:=by unfold mx;split<;>omega
theorem ME(a b:Int):b≤mx a b:=by unfold mx;split<;>omega
theorem Ov{k a b:Int}(h1:k≤a)(h2:k≤b):k≤mi a b:=by unfold mi;split<;>omega
theorem Nv{k a b:Int}(h1:a≤k)(h2:b≤k):mx a b≤k:=by unfold mx;split<;>omega
theorem xI(f:Ce→Int):∀(l:List Ce) (m:Int),mlo f m l≤m∧∀c∈l,mlo f m l≤f c
 |[],m=>⟨Int.le_refl _,fun c hc=>by cases hc⟩
 |c::l,m=>by
  obtain⟨h1,h2⟩:=xI f l (mi m (f c))
  refine⟨Int.le_trans h1 (MA _ _),fun d hd=> ?_⟩
  rcases List.mem_cons.1 hd with rfl|hd
  ·exact Int.le_trans h1 (Ml _ _)
  ·exact h2 d hd
theorem xT(f:Ce→Int){k:Int}:∀(l:List Ce) (m:Int),k≤m→(∀c∈l,k≤f c)→k≤mlo f m l
 |[],_,h,_=>h
 |c::l,m,h,hl=>xT f l (mi m (f c)) (Ov h (hl c List.mem_cons_self)) fun d hd=>hl d (List.mem_cons_of_mem _ hd)
theorem wT(f:Ce→Int):∀(l:List Ce) (m:Int),m≤mhi f m l∧∀c∈l,f c≤mhi f m l
 |[],m=>⟨Int.le_refl _,fun c hc=>by cases hc⟩
 |c::l,m=>by
  obtain⟨h1,h2⟩:=wT f l (mx m (f c))
  refine⟨Int.le_trans (MQ _ _) h1,fun d hd=> ?_⟩
  rcases List.mem_cons.1 hd with rfl|hd
  ·exact Int.le_trans (ME _ _) h1
  ·exact h2 d hd
theorem wE(f:Ce→Int){k:Int}:∀(l:List Ce) (m:Int),m≤k→(∀c∈l,f c≤k)→mhi f m l≤k
 |[],_,h,_=>h
 |c::l,m,h,hl=>wE f l (mx m (f c)) (Nv h (hl c List.mem_cons_self)) fun d hd=>hl d (List.mem_cons_of_mem _ hd)
theorem BQ:∀(l:List Ce) (b:Bx),l.foldl ng b=⟨⟨mlo (·.x) b.lo.x l,mlo (·.y) b.lo.y l,mlo (·.z) b.lo.z l⟩,⟨mhi (·.x) b.hi.x l,mhi (·.y) b.hi.y l,mhi (·.z) b.hi.z l⟩⟩
 |[],b=>rfl
 |c::l,b=>by rw[List.foldl_cons,BQ l (ng b c)];rfl
theorem A4(l:List Ce):bxS l=⟨⟨mlo (·.x) 7 l,mlo (·.y) 7 l,mlo (·.z) 7 l⟩,⟨mhi (·.x) 0 l,mhi (·.y) 0 l,mhi (·.z) 0 l⟩⟩:=BQ l bx0
def Sub(a b:List Nat):Prop:=∀c,dY a c=true→dY b c=true
theorem filter_le{α:Type}{p q:α→Bool}(h:∀x,p x=true→q x=true):∀l:List α,(l.filter p).length≤(l.filter q).length
 |[]=>Nat.le_refl _
 |x::l=>by
  have ih:=filter_le h l
  rw[List.filter_cons,List.filter_cons]
  by_cases hp:p x=true
  ·rw[if_pos hp,if_pos (h x hp)];simpa using ih
  ·rw[if_neg hp]
   split
   ·exact Nat.le_succ_of_le ih
   ·exact ih
theorem Sub.cnt{a b:List Nat}(h:Sub a b):ei a≤ei b:=filter_le h _
theorem Cu{a b:List Nat}(ha:IsS a)(hb:IsS b):sIn a b=true↔Sub a b:=by
 unfold sIn
 rw[decide_eq_true_eq]
 constructor
 ·intro h c hc
  have e:dY (oh a b) c=dY a c:=by rw[h]
  rw[u9 ha hb,hc,Bool.true_and]at e
  exact e
 ·intro h
  refine sU (ha.meet hb) ha fun z i hz hi=> ?_
  rw[u9 ha hb]
  cases hc:dY a (dX z i)with
  |false=>rfl
  |true=>rw[h _ hc];rfl
end Go.A.Pk
end
section
set_option maxRecDepth 100000
namespace Go.A.Pk
variable {T:Nat→Option ah}
abbrev CeQ(h:Heap)(v:Value)(l:List Ce):Prop:=ef h 3 v l.length (ceS l)
theorem CeQ.elem{h:Heap}{v:Value}{l:List Ce}(s:CeQ h v l){i:Nat}{x:Ce}(hi:l[i]? =some x):
 ∃b o c vs own t,v= .slice (some ⟨b,o,none⟩) l.length c∧h.get b=some (.cells vs own t)∧b<h.next∧bV 3 (bE (o+i*3) vs)=ceL x∧cm vs (o+i*3+0)=some (.int .i64 x.x)∧cm vs (o+i*3+1)=some (.int .i64 x.y)∧cm vs (o+i*3+2)=some (.int .i64 x.z):=by
 have hlt:=(List.getElem?_eq_some_iff.1 hi).1
 rcases ef.inv s with⟨_,_,h0,_⟩|⟨b,o,cap,hv,s1,hc⟩
 ·omega
 ·obtain⟨vs,own,t,g1,g2⟩:=s1.obj
  have hsp:∀(l:List Ce) (i:Nat),l[i]? =some x→((ceS l).drop (i*3)).take 3=ceL x:=by
   intro l
   induction l with
   |nil=>intro i h;simp at h
   |cons c l ih=>
    intro i h
    cases i with
    |zero=>simp at h;subst h;rfl
    |succ i=>
     have e:ceS (c::l)=ceL c++ceS l:=rfl
     rw[e,show(i+1)*3=3+i*3 by omega,←List.drop_drop]
     exact ih i (by simpa using h)
  have e:=hsp l i hi
  rw[←g2]at e
  have e2:bV 3 (bE (o+i*3) vs)=ceL x:=by
   rw[←e]
   simp only[dh,cg,List.drop_take,List.take_take,List.drop_drop]
   congr 1;omega
  have e3:∀j v,j<3→(ceL x)[j]? =some v→cm vs (o+i*3+j)=some v:=by
   intro j v hj h
   rw[←e2,dh,cg,List.getElem?_take_of_lt hj,List.getElem?_drop]at h
   rw[cV];exact h
  exact⟨b,o,cap,vs,own,t,hv,g1,s1.lt,e2,e3 0 _ (by omega) rfl,e3 1 _ (by omega) rfl,e3 2 _ (by omega) rfl⟩
theorem xy(F:B1 T)(hf:T 84=some f84){h:Heap}(hr:Rdy h){s:List Nat}(hs:IsS s):Pu T 84 [sv s] h (.int .i64 ((ei s:Nat):Int)):=by
 refine .of F.hr.p hf hr rfl ?_
 have k8:=aP hs.len
 have k9:=bq hs.len
 have x0:Ext h (h.push (.cells (cellsOf (sv s)) true 1)):=(Ext.refl h).push _
 have g0:(h.push (.cells (cellsOf (sv s)) true 1)).get h.next=some (.cells (us s) true 1):=z3 h _
 refine y4 ?_;refine yB ?_;refine yM ?_;refine y3 ?_
 generalize(h.push (.cells (cellsOf (sv s)) true 1))=H at*
 have W:=x0.wf hr.wf
 have hL:=x0.log.trans hr.log
 have hle:=gY s 512
 have C:=pR F (h:={H with log:=[]}) (.of W) hs
 unfold ei
 refine y4 ?_;refine yV ?_
 refine yC ?_
 refine FW.al C (fun v h' m q=>q.log m) ?_
 rintro v H1 x1 q
 clear C
 have hL1:=x1.log.trans hL
 obtain⟨a,c,rfl⟩:=(q.slice (by omega)).form
 refine yD ?_;refine yM ?_;refine y3 ?_;refine aJ ?_
 exact aF hL1 rfl rfl
set_option maxHeartbeats 4000000 in
theorem B5(hp:bg T)(hf:T 221=some f221){h:Heap}(hr:Rdy h){o:List Nat}(ho:IsS o){c:Ce}(hc:inG c=true):Pu T 221 [sv o,ceV c] h (sv (kP o c)):=by
 refine .of hp hf hr (gX _) ?_
 have hk:=ho.kP hc
 obtain⟨z,i,hz,hi,rfl⟩:=hM hc
 have e1:=jw (jC (s:=o) (i:=z) (by rw[ho.len];exact hz))
 have m1:=NH (a:=o.getD z 0) (b:=2 ^ i) (ho.jF z) (p9 hi)
 have k4:aq .mul (.int .i64 8) (.int .i64 (dX z i).y)=some (.int .i64 (8*((i / 8:Nat):Int))):=Cr (b:=((i / 8:Nat):Int)) (by omega) (by omega)
 have k5:aq .add (.int .i64 (8*((i / 8:Nat):Int))) (.int .i64 (dX z i).x)=some (.int .i64 ((i:Nat):Int)):=lD (b:=((i % 8:Nat):Int)) (by rw[bT]<;>omega)
 have k6:=BA (k:= .u64) hi
 have k7:fD .u64 ((i:Nat):Int)=((i:Nat):Int):=lU (by omega)
 have kw:=wS (o:=o) (z:=z) (v:=Nat.lor (o.getD z 0) (2 ^ i)) (by rw[ho.len];exact hz)
 rw[←sM o hi]at kw
 have kc:(Nat.beq (bR (cellsOf (.int .u64 ((Nat.lor (o.getD z 0) (2 ^ i):Nat):Int)))) 1&&Nat.ble (0+z*1+1) (bR (us o))&&eM (cellsOf (.int .u64 ((Nat.lor (o.getD z 0) (2 ^ i):Nat):Int))))=true:=by
  rw[ct (us o),aH,ho.len,gF (by omega)];rfl
 have lz:cm (ceL (dX z i)) (0+2)=some (.int .i64 ((z:Nat):Int)):=rfl
 have g0:(((h.push (.cells (cellsOf (sv o)) true 1)).push (.cells (cellsOf (ceV (dX z i))) true 1)).push (.cells (aM 8 (.int .u64 0)) true 1)).get h.next=some (.cells (us o) true 1):=by(simp(disch:=first|omega|(simp only[z1,z2];omega))only[z3,z4,z5,z6,z7,z1,z2];exact rfl)
 have g1:(((h.push (.cells (cellsOf (sv o)) true 1)).push (.cells (cellsOf (ceV (dX z i))) true 1)).push (.cells (aM 8 (.int .u64 0)) true 1)).get (h.next+1)=some (.cells (ceL (dX z i)) true 1):=by(simp(disch:=first|omega|(simp only[z1,z2];omega)|(simp only[z1,z2];done)|fail)only[z8,z4,z5,z9,z7,z1,z2,g0];exact rfl)
 have g2:(((h.push (.cells (cellsOf (sv o)) true 1)).push (.cells (cellsOf (ceV (dX z i))) true 1)).push (.cells (aM 8 (.int .u64 0)) true 1)).get (h.next+2)=some (.cells (aM 8 (.int .u64 0)) true 1):=by(simp(disch:=first|omega|(simp only[z1,z2];omega)|(simp only[z1,z2];done)|fail)only[z8,z4,z5,z9,z7,z1,z2,g0,g1];done)
 have x0:Ext h (((h.push (.cells (cellsOf (sv o)) true 1)).push (.cells (cellsOf (ceV (dX z i))) true 1)).push (.cells (aM 8 (.int .u64 0)) true 1)):=(((Ext.refl h).push _).push _).push _
 have n0:(((h.push (.cells (cellsOf (sv o)) true 1)).push (.cells (cellsOf (ceV (dX z i))) true 1)).push (.cells (aM 8 (.int .u64 0)) true 1)).next=h.next+3:=rfl
 refine y4 ?_;refine yB ?_;refine yB ?_;refine ak (cQ) ?_;refine y3 ?_
 generalize(((h.push (.cells (cellsOf (sv o)) true 1)).push (.cells (cellsOf (ceV (dX z i))) true 1)).push (.cells (aM 8 (.int .u64 0)) true 1))=H at*
 have hL:=x0.log.trans hr.log
 have k1:=bq hk.len
 have k2:=aP hk.len
 have k3:=hk.len
 refine af ?_;refine bQ ?_;refine qF ?_;refine qL ?_;refine qF ?_
 refine qL ?_;refine qJ ?_;refine qK ?_
 refine qF ?_;refine qL ?_;refine qW ?_
 refine qF ?_;refine qL ?_;refine qW ?_
 refine aI rfl rfl rfl (by exact rfl) (by exact rfl) (by exact rfl) (wH (by exact rfl) (by assumption)) ?_;refine qW ?_
 refine qW ?_;refine qJ ?_
 refine ij (vs:=us o) (ws:=us (kP o (dX z i))) rfl rfl rfl (by exact rfl) (by exact rfl) (by exact rfl) g0 kc kw (by omega) (by(repeat apply aW rfl);exact cM) ?_
 generalize kP o (dX z i)=o' at*
 refine cK ?_;refine y1 ?_;refine aN ?_;refine y4 ?_
 refine ak (dA (by exact rfl) (by(simp(disch:=first|omega|(simp only[z1,z2];omega))only[z3,z4,z5,z6,z7,z1,z2,g0,g1,g2];exact rfl)) (by assumption) (by assumption)) ?_
 refine ak (cO (by exact rfl) (by exact rfl) (by(simp(disch:=first|omega|(simp only[z1,z2];omega))only[z3,z4,z5,z6,z7,z1,z2,g0,g1,g2];exact rfl)) (by(simp only[aH];assumption)) (by exact rfl) (by exact cW _)) ?_;refine y3 ?_;refine aJ ?_
 refine aF ?_ (bY (own:=true) (s:=1) rfl ?_ k1 k2 rfl) rfl
 ·rw[Heap.aC (by show h.next≤h.next+2;omega),Heap.aC (Nat.le_refl _)];exact hL
 ·(simp(disch:=first|omega|(simp only[z1,z2];omega))only[z3,z4,z5,z6,z7,z1,z2,g0,g1,g2];done)
theorem MH(hp:bg T)(hf:T 267=some f267){h:Heap}(hr:Rdy h){c:Ce}(hc:InB c):Pu T 267 [ceV c, .int .i64 0] h (ceV (dJ 0 c)):=by
 refine .of hp hf hr rfl ?_
 obtain⟨cx,cy,cz⟩:=c
 obtain⟨hx,hy,hz⟩:=hc
 dsimp only at hx hy hz
 have mx:=di hx
 have my:=di hy
 have mz:=di hz
 have q1:aq .eql (.int .i64 0) (.int .i64 1)=some (.bool false):=rfl
 have q2:aq .eql (.int .i64 0) (.int .i64 2)=some (.bool false):=rfl
 have q3:aq .eql (.int .i64 0) (.int .i64 3)=some (.bool false):=rfl
 have q4:aq .eql (.int .i64 0) (.int .i64 4)=some (.bool false):=rfl
 have q5:aq .eql (.int .i64 0) (.int .i64 5)=some (.bool false):=rfl
 have ck:bV 3 (bE 0 (ceL (dJ 0 ⟨cx,cy,cz⟩)))=ceL (dJ 0 ⟨cx,cy,cz⟩):=rfl
 refine y4 ?_;refine yB ?_;refine ak (cQ) ?_;refine y3 ?_;refine af ?_;refine y4 ?_;refine yM ?_;refine y3 ?_;refine au ?_;refine y4 ?_;refine yW ?_;refine yM ?_;refine y3 ?_;refine yX ?_;refine y4 ?_;refine yW ?_;refine yM ?_;refine y3 ?_;refine yX ?_;refine y4 ?_;refine yW ?_;refine yM ?_;refine y3 ?_;refine yX ?_;refine y4 ?_;refine yW ?_;refine yM ?_;refine y3 ?_;refine yX ?_;refine y4 ?_;refine yW ?_;refine yM ?_;refine y3 ?_;refine yX ?_;refine aB ?_;refine eD ?_;refine aN ?_;refine y4 ?_
 refine yN ?_
 refine yS ?_;refine y3 ?_;refine aJ ?_
 refine aF ?_ (bY (own:=true) (s:=1) rfl ?_ ck rfl rfl) rfl
 ·rw[Heap.aC (by show h.next≤h.next+1;omega)];exact hr.log
 ·(simp(disch:=first|omega|(simp only[z1,z2];omega)|(simp only[z1,z2];done)|fail)only[z8,z4,z5,z9,z7,z1,z2];exact rfl)
theorem LQ(hp:bg T)(hf:T 267=some f267){h:Heap}(hr:Rdy h){c:Ce}(hc:InB c):Pu T 267 [ceV c, .int .i64 1] h (ceV (dJ 1 c)):=by
 refine .of hp hf hr rfl ?_
 obtain⟨cx,cy,cz⟩:=c
 obtain⟨hx,hy,hz⟩:=hc
 dsimp only at hx hy hz
 have mx:=di hx
 have my:=di hy
 have mz:=di hz
 have q1:aq .eql (.int .i64 1) (.int .i64 1)=some (.bool true):=rfl
 have ck:bV 3 (bE 0 (ceL (dJ 1 ⟨cx,cy,cz⟩)))=ceL (dJ 1 ⟨cx,cy,cz⟩):=rfl
 refine y4 ?_;refine yB ?_;refine ak (cQ) ?_;refine y3 ?_;refine af ?_;refine y4 ?_;refine yM ?_;refine y3 ?_;refine au ?_;refine y4 ?_;refine yW ?_;refine yM ?_;refine y3 ?_;refine yY ?_;refine y4 ?_;refine yF ?_
 refine yL ?_;refine yF ?_
 refine yL ?_;refine yW ?_
 refine yF ?_;refine yL ?_;refine ak (cZ (by exact rfl)) ?_
 refine yS ?_;refine y3 ?_;refine aJ ?_;refine jT ?_;refine eC ?_
 refine aF ?_ (bY (own:=true) (s:=1) rfl ?_ ck rfl rfl) rfl
 ·rw[Heap.aC (by show h.next≤h.next+1;omega)];exact hr.log
 ·(simp(disch:=first|omega|(simp only[z1,z2];omega)|(simp only[z1,z2];done)|fail)only[z8,z4,z5,z9,z7,z1,z2];exact rfl)
theorem Ld(hp:bg T)(hf:T 267=some f267){h:Heap}(hr:Rdy h){c:Ce}(hc:InB c):Pu T 267 [ceV c, .int .i64 2] h (ceV (dJ 2 c)):=by
 refine .of hp hf hr rfl ?_
 obtain⟨cx,cy,cz⟩:=c
 obtain⟨hx,hy,hz⟩:=hc
 dsimp only at hx hy hz
 have mx:=di hx
 have my:=di hy
 have mz:=di hz
 have q1:aq .eql (.int .i64 2) (.int .i64 1)=some (.bool false):=rfl
 have q2:aq .eql (.int .i64 2) (.int .i64 2)=some (.bool true):=rfl
 have ck:bV 3 (bE 0 (ceL (dJ 2 ⟨cx,cy,cz⟩)))=ceL (dJ 2 ⟨cx,cy,cz⟩):=rfl
 refine y4 ?_;refine yB ?_;refine ak (cQ) ?_;refine y3 ?_;refine af ?_;refine y4 ?_;refine yM ?_;refine y3 ?_;refine au ?_;refine y4 ?_;refine yW ?_;refine yM ?_;refine y3 ?_;refine yX ?_;refine y4 ?_;refine yW ?_;refine yM ?_;refine y3 ?_;refine yY ?_;refine y4 ?_;refine yF ?_
 refine yL ?_;refine yF ?_
 refine yL ?_;refine yW ?_
 refine yF ?_;refine yL ?_
 refine yW ?_;refine ak (cZ (by exact rfl)) ?_
 refine yS ?_;refine y3 ?_;refine aJ ?_;refine jT ?_;refine eC ?_
 refine aF ?_ (bY (own:=true) (s:=1) rfl ?_ ck rfl rfl) rfl
 ·rw[Heap.aC (by show h.next≤h.next+1;omega)];exact hr.log
 ·(simp(disch:=first|omega|(simp only[z1,z2];omega)|(simp only[z1,z2];done)|fail)only[z8,z4,z5,z9,z7,z1,z2];exact rfl)
theorem Mb(hp:bg T)(hf:T 267=some f267){h:Heap}(hr:Rdy h){c:Ce}(hc:InB c):Pu T 267 [ceV c, .int .i64 3] h (ceV (dJ 3 c)):=by
 refine .of hp hf hr rfl ?_
 obtain⟨cx,cy,cz⟩:=c
 obtain⟨hx,hy,hz⟩:=hc
 dsimp only at hx hy hz
 have mx:=di hx
 have my:=di hy
 have mz:=di hz
 have q1:aq .eql (.int .i64 3) (.int .i64 1)=some (.bool false):=rfl
 have q2:aq .eql (.int .i64 3) (.int .i64 2)=some (.bool false):=rfl
 have q3:aq .eql (.int .i64 3) (.int .i64 3)=some (.bool true):=rfl
 have ck:bV 3 (bE 0 (ceL (dJ 3 ⟨cx,cy,cz⟩)))=ceL (dJ 3 ⟨cx,cy,cz⟩):=rfl
 refine y4 ?_;refine yB ?_;refine ak (cQ) ?_;refine y3 ?_;refine af ?_;refine y4 ?_;refine yM ?_;refine y3 ?_;refine au ?_;refine y4 ?_;refine yW ?_;refine yM ?_;refine y3 ?_;refine yX ?_;refine y4 ?_;refine yW ?_;refine yM ?_;refine y3 ?_;refine yX ?_;refine y4 ?_;refine yW ?_;refine yM ?_;refine y3 ?_;refine yY ?_;refine y4 ?_;refine yF ?_
 refine yL ?_;refine yF ?_
 refine yL ?_;refine yF ?_
 refine yL ?_;refine yW ?_
 refine ak (cZ (by exact rfl)) ?_
 refine yS ?_;refine y3 ?_;refine aJ ?_;refine jT ?_;refine eC ?_
 refine aF ?_ (bY (own:=true) (s:=1) rfl ?_ ck rfl rfl) rfl
 ·rw[Heap.aC (by show h.next≤h.next+1;omega)];exact hr.log
 ·(simp(disch:=first|omega|(simp only[z1,z2];omega)|(simp only[z1,z2];done)|fail)only[z8,z4,z5,z9,z7,z1,z2];exact rfl)
theorem Mw(hp:bg T)(hf:T 267=some f267){h:Heap}(hr:Rdy h){c:Ce}(hc:InB c):Pu T 267 [ceV c, .int .i64 4] h (ceV (dJ 4 c)):=by
 refine .of hp hf hr rfl ?_
 obtain⟨cx,cy,cz⟩:=c
 obtain⟨hx,hy,hz⟩:=hc
 dsimp only at hx hy hz
 have mx:=di hx
 have my:=di hy
 have mz:=di hz
 have q1:aq .eql (.int .i64 4) (.int .i64 1)=some (.bool false):=rfl
 have q2:aq .eql (.int .i64 4) (.int .i64 2)=some (.bool false):=rfl
 have q3:aq .eql (.int .i64 4) (.int .i64 3)=some (.bool false):=rfl
 have q4:aq .eql (.int .i64 4) (.int .i64 4)=some (.bool true):=rfl
 have ck:bV 3 (bE 0 (ceL (dJ 4 ⟨cx,cy,cz⟩)))=ceL (dJ 4 ⟨cx,cy,cz⟩):=rfl
 refine y4 ?_;refine yB ?_;refine ak (cQ) ?_;refine y3 ?_;refine af ?_;refine y4 ?_;refine yM ?_;refine y3 ?_;refine au ?_;refine y4 ?_;refine yW ?_;refine yM ?_;refine y3 ?_;refine yX ?_;refine y4 ?_;refine yW ?_;refine yM ?_;refine y3 ?_;refine yX ?_;refine y4 ?_;refine yW ?_;refine yM ?_;refine y3 ?_;refine yX ?_;refine y4 ?_;refine yW ?_;refine yM ?_;refine y3 ?_;refine yY ?_;refine y4 ?_;refine yF ?_
 refine yL ?_;refine yF ?_
 refine yL ?_;refine yF ?_
 refine yL ?_;refine yW ?_
 refine ak (cZ (by exact rfl)) ?_
 refine yS ?_;refine y3 ?_;refine aJ ?_;refine jT ?_;refine eC ?_
 refine aF ?_ (bY (own:=true) (s:=1) rfl ?_ ck rfl rfl) rfl
 ·rw[Heap.aC (by show h.next≤h.next+1;omega)];exact hr.log
 ·(simp(disch:=first|omega|(simp only[z1,z2];omega)|(simp only[z1,z2];done)|fail)only[z8,z4,z5,z9,z7,z1,z2];exact rfl)
theorem L7(hp:bg T)(hf:T 267=some f267){h:Heap}(hr:Rdy h){c:Ce}(hc:InB c):Pu T 267 [ceV c, .int .i64 5] h (ceV (dJ 5 c)):=by
 refine .of hp hf hr rfl ?_
 obtain⟨cx,cy,cz⟩:=c
 obtain⟨hx,hy,hz⟩:=hc
 dsimp only at hx hy hz
 have mx:=di hx
 have my:=di hy
 have mz:=di hz
 have q1:aq .eql (.int .i64 5) (.int .i64 1)=some (.bool false):=rfl
 have q2:aq .eql (.int .i64 5) (.int .i64 2)=some (.bool false):=rfl
 have q3:aq .eql (.int .i64 5) (.int .i64 3)=some (.bool false):=rfl
 have q4:aq .eql (.int .i64 5) (.int .i64 4)=some (.bool false):=rfl
 have q5:aq .eql (.int .i64 5) (.int .i64 5)=some (.bool true):=rfl
 have ck:bV 3 (bE 0 (ceL (dJ 5 ⟨cx,cy,cz⟩)))=ceL (dJ 5 ⟨cx,cy,cz⟩):=rfl
 refine y4 ?_;refine yB ?_;refine ak (cQ) ?_;refine y3 ?_;refine af ?_;refine y4 ?_;refine yM ?_;refine y3 ?_;refine au ?_;refine y4 ?_;refine yW ?_;refine yM ?_;refine y3 ?_;refine yX ?_;refine y4 ?_;refine yW ?_;refine yM ?_;refine y3 ?_;refine yX ?_;refine y4 ?_;refine yW ?_;refine yM ?_;refine y3 ?_;refine yX ?_;refine y4 ?_;refine yW ?_;refine yM ?_;refine y3 ?_;refine yX ?_;refine y4 ?_;refine yW ?_;refine yM ?_;refine y3 ?_;refine yY ?_;refine y4 ?_;refine yF ?_
 refine yL ?_;refine yW ?_
 refine yF ?_;refine yL ?_;refine yF ?_
 refine yL ?_;refine ak (cZ (by exact rfl)) ?_
 refine yS ?_;refine y3 ?_;refine aJ ?_;refine jT ?_;refine eC ?_
 refine aF ?_ (bY (own:=true) (s:=1) rfl ?_ ck rfl rfl) rfl
 ·rw[Heap.aC (by show h.next≤h.next+1;omega)];exact hr.log
 ·(simp(disch:=first|omega|(simp only[z1,z2];omega)|(simp only[z1,z2];done)|fail)only[z8,z4,z5,z9,z7,z1,z2];exact rfl)
theorem K7(hp:bg T)(hf:T 267=some f267){h:Heap}(hr:Rdy h){c:Ce}(hc:InB c):∀k:Nat,k<6→Pu T 267 [ceV c, .int .i64 (k:Nat)] h (ceV (dJ k c))
 |0,_=>MH hp hf hr hc
 |1,_=>LQ hp hf hr hc
 |2,_=>Ld hp hf hr hc
 |3,_=>Mb hp hf hr hc
 |4,_=>Mw hp hf hr hc
 |5,_=>L7 hp hf hr hc
 |k+6,h=>by omega
set_option maxHeartbeats 8000000 in
theorem CM(hp:bg T)(hf:T 222=some f222)(hf2:T 267=some f267){h:Heap}(hr:Rdy h){c:Ce}(hc:InB c){t:Nat}(ht:t<24):Pu T 222 [ceV c, .int .i64 (t:Nat)] h (ceV (fC t c)):=by
 refine .of hp hf hr rfl ?_
 have x0:Ext h ((h.push (.cells (cellsOf (ceV c)) true 1)).push (.cells [I.O,I.O,I.O] true 1)):=((Ext.refl h).push _).push _
 have ga:((h.push (.cells (cellsOf (ceV c)) true 1)).push (.cells [I.O,I.O,I.O] true 1)).get h.next=some (.cells (ceL c) true 1):=(z4 (Nat.lt_succ_self _)).trans (z3 h _)
 have gb:((h.push (.cells (cellsOf (ceV c)) true 1)).push (.cells [I.O,I.O,I.O] true 1)).get (h.next+1)=some (.cells [I.O,I.O,I.O] true 1):=z3 _ _
 have n0:((h.push (.cells (cellsOf (ceV c)) true 1)).push (.cells [I.O,I.O,I.O] true 1)).next=h.next+2:=rfl
 refine y4 ?_;refine yB ?_;refine ak (cQ) ?_;refine y3 ?_
 generalize((h.push (.cells (cellsOf (ceV c)) true 1)).push (.cells [I.O,I.O,I.O] true 1))=H at*
 have W:=x0.wf hr.wf
 have hL:=x0.log.trans hr.log
 have hk:t / 4<6:=by omega
 have m1:aq .quo (.int .i64 (t:Nat)) (.int .i64 4)=some (.int .i64 ((t / 4:Nat):Int)):=Gf (by omega)
 have m2:aq .rem (.int .i64 (t:Nat)) (.int .i64 4)=some (.int .i64 ((t % 4:Nat):Int)):=Gn
 have C:=K7 hp hf2 (h:={H with log:=[]}) (.of W) hc (t / 4) hk
 have hb:=hc.LO (t / 4)
 have ck:bV 3 (bE 0 (ceL c))=ceL c:=rfl
 have ckl:Nat.beq (bR (ceL c)) 3=true:=rfl
 have hr4:t % 4<4:=by omega
 unfold fC
 generalize hq:dJ (t / 4) c=d at*
 generalize t / 4=k at*
 generalize hrr:t % 4=r at*
 refine y4 ?_;refine yN ?_;refine yM ?_;refine yW ?_
 refine yC ?_
 refine FW.pu C ?_
 clear C
 refine yS ?_;refine y3 ?_;refine af ?_;refine y4 ?_;refine yM ?_;refine y3 ?_;refine au ?_
 refine cG (fun m e ds h'=>∃j:Nat,j≤r∧r-j=m∧e=[(1, .int .i64 (t:Nat)),(2, .pointer (some ⟨h.next,0,none⟩)),(4, .pointer (some ⟨h.next+1,0,none⟩)),(5, .int .i64 (j:Nat))]∧ds=[]∧Ext h h'∧h.next+2≤h'.next∧h'.get h.next=some (.cells (ceL (mX j d)) true 1)∧h'.get (h.next+1)=some (.cells [I.O,I.O,I.O] true 1))
  ⟨0,Nat.zero_le _,rfl,rfl,rfl,⟨x0.next,(Heap.aC (by omega)).trans x0.log,fun b hb=>(z5 (by omega)).trans (x0.old b hb),fun w=>(x0.wf w).as (AS.wr h.next _ _ _)⟩,by show h.next+2≤H.next;omega,by rw[z6,ga];rfl,(z5 (by omega)).trans gb⟩ ?_
 rintro m e ds h' ⟨j,hj,rfl,rfl,rfl,x,hn,gc,gd⟩
 have hbj:=hb.rot j
 by_cases hlt:j<r
 ·have hro:mX (j+1) d=AN (mX j d):=rfl
  generalize mX j d=b at*
  obtain⟨bx,by',bz⟩:=b
  obtain⟨_,hy,_⟩:=hbj
  dsimp only at hy
  have my:=di hy
  unfold AN at hro
  dsimp only at hro
  have mlt:aq .lss (.int .i64 (j:Nat)) (.int .i64 (r:Nat))=some (.bool true):=fm (by omega)
  refine af ?_;refine y4 ?_;refine yM ?_;refine yM ?_;refine yW ?_;refine yW ?_;refine y3 ?_;refine yY ?_;refine aB ?_;refine aN ?_;refine af ?_;refine au ?_;refine aA ?_;refine yF ?_;refine yL ?_
  refine yW ?_;refine yF ?_;refine yL ?_;refine yF ?_;refine yL ?_;refine ak (cZ (by exact rfl)) ?_
  refine yS ?_;refine dK ?_;refine y1 ?_;refine eD ?_;refine aN ?_;refine aA ?_;refine yM ?_;refine fE ?_
  refine yM ?_;refine y3 ?_
  refine⟨r-(j+1),by omega,j+1,by omega,rfl,rfl,rfl,⟨x.next,(Heap.aC (by omega)).trans x.log,fun b hb=>(z5 (by omega)).trans (x.old b hb),fun w=>(x.wf w).as (AS.wr h.next _ _ _)⟩,hn,?_,(z5 (by omega)).trans gd⟩
  rw[z6,gc,hro];rfl
 ·obtain rfl:j=r:=by omega
  generalize mX j d=b at*
  have ckb:bV 3 (bE 0 (ceL b))=ceL b:=rfl
  have ckbl:Nat.beq (bR (ceL b)) 3=true:=rfl
  have mlt:aq .lss (.int .i64 (j:Nat)) (.int .i64 (j:Nat))=some (.bool false):=fF (by omega)
  refine af ?_;refine y4 ?_;refine yM ?_;refine yM ?_;refine yW ?_;refine yW ?_;refine y3 ?_;refine yX ?_;refine cA ?_;refine dy ?_;refine dy ?_;refine fV ?_;refine aN ?_;refine y4 ?_;refine yN ?_
  refine yS ?_;refine y3 ?_;refine aJ ?_
  refine aF ?_ (bY (own:=true) (s:=1) rfl ?_ ckb ckbl rfl) rfl
  ·rw[Heap.aC (by show h.next≤h.next+1;omega)];exact x.log.trans hr.log
  ·(simp(disch:=first|omega|(simp only[z1,z2];omega))only[z3,z4,z5,z6,z7,z1,z2,ga,gb,gd,gc];exact rfl)
structure wZ (T:Nat→Option ah):Prop where
 cr:B1 T
 f137:T 137=some f137
 f139:T 139=some f139
 f221:T 221=some f221
 f222:T 222=some f222
 f223:T 223=some f223
 f224:T 224=some f224
 f267:T 267=some f267
theorem BW(s:List Nat)(n:Int):cw (.tuple #[sv s, .int .i64 n])=true:=by
 have q:flat (sv s)=true:=oQ s
 show gZ [sv s, .int .i64 n]=true
 simp only[gZ,q,cond_true];rfl
theorem fS{α:Type}{l:List α}{j:Nat}{x:α}(h:l[j]? =some x):l.take (j+1)=l.take j++[x]:=by
 rw[List.take_add_one,h];rfl
set_option maxHeartbeats 8000000 in
theorem C9(F:wZ T){h:Heap}(hr:Rdy h){s:List Nat}(hs:IsS s){t:Nat}(ht:t<24):Pu T 137 [sv s, .int .i64 (t:Nat)] h (.tuple #[sv (dz s t), .int .i64 0]):=by
 have hp:=F.cr.hr.p
 refine .of hp F.f137 hr (BW _ 0) ?_
 have k8:=aP hs.len
 have k9:=bq hs.len
 have x0:Ext h ((h.push (.cells (cellsOf (sv s)) true 1)).push (.cells (aM 8 (.int .u64 0)) true 1)):=((Ext.refl h).push _).push _
 have g0:((h.push (.cells (cellsOf (sv s)) true 1)).push (.cells (aM 8 (.int .u64 0)) true 1)).get h.next=some (.cells (us s) true 1):=by(simp(disch:=first|omega|(simp only[z1,z2];omega))only[z3,z4,z5,z6,z7,z1,z2];exact rfl)
 have g1:((h.push (.cells (cellsOf (sv s)) true 1)).push (.cells (aM 8 (.int .u64 0)) true 1)).get (h.next+1)=some (.cells (aM 8 (.int .u64 0)) true 1):=by(simp(disch:=first|omega|(simp only[z1,z2];omega)|(simp only[z1,z2];done)|fail)only[z8,z4,z5,z9,z7,z1,z2,g0];done)
 have n0:((h.push (.cells (cellsOf (sv s)) true 1)).push (.cells (aM 8 (.int .u64 0)) true 1)).next=h.next+2:=rfl
 refine y4 ?_;refine yB ?_;refine ak (cQ) ?_;refine yM ?_;refine y3 ?_
 generalize((h.push (.cells (cellsOf (sv s)) true 1)).push (.cells (aM 8 (.int .u64 0)) true 1))=H at*
 have W:=x0.wf hr.wf
 have hL:=x0.log.trans hr.log
 have m1:aq .lss (.int .i64 (t:Nat)) (.int .i64 0)=some (.bool false):=fF (by omega)
 have m2:aq .gtr (.int .i64 (t:Nat)) (.int .i64 23)=some (.bool false):=jA (by omega)
 refine af ?_;refine y4 ?_;refine yM ?_;refine yW ?_;refine yM ?_;refine yO ?_;refine yM ?_;refine yO ?_
 refine yW ?_;refine yU ?_;refine y3 ?_;refine yX ?_;refine aB ?_;refine aN ?_
 refine eY (E0:=[(1, .int .i64 (t:Nat)),(2, .pointer (some ⟨h.next,0,none⟩)),(4, .pointer (some ⟨h.next+1,0,none⟩)),(6, .pointer (some ⟨H.next,0,none⟩))]) (P:=fun h'=>Ext H h'∧h'.next=H.next+1∧h'.get H.next=some (.cells (us s0) true 1)) ?_ ?_
 ·refine aA ?_;refine ak (cQ) ?_;refine dK ?_;refine y1 ?_
  exact⟨rfl,rfl,rfl,(Ext.refl H).push _,rfl,by(simp(disch:=first|omega|(simp only[z1,z2];omega))only[z3,z4,z5,z6,z7,z1,z2,g0,g1];exact rfl)⟩
 rintro H1 ⟨x1,n1,q1⟩
 have ey1':=x0.trans x1
 have W1:=ey1'.wf hr.wf
 have hL1:=x1.log.trans hL
 have ga:=(x1.old _ (by omega)).trans g0
 have gb:=(x1.old _ (by omega)).trans g1
 have C:=pR F.cr (h:={H1 with log:=[]}) (.of W1) hs
 have hin:∀c∈aR s 512,inG c=true:=fun c hc=>iw hc
 have hle:=gY s 512
 unfold dz fZ
 generalize aR s 512=l at*
 clear g0 g1
 refine y4 ?_;refine yV ?_
 refine yC ?_
 refine FW.al C (fun v h' m q=>q.log m) ?_
 rintro v H2 x2 q
 clear C
 have ey2':=ey1'.trans x2
 have hL2:=x2.log.trans hL1
 have n2:=x2.next
 have gb2:=(x2.old _ (by omega)).trans gb
 have q12:=(x2.old _ (by omega)).trans q1
 obtain⟨a,cc,rfl⟩:=(q.slice (by omega)).form
 clear ga gb q1
 refine yM ?_;refine y3 ?_;refine af ?_;refine y4 ?_;refine yM ?_;refine y3 ?_;refine au ?_
 refine cG (fun m e ds h'=>∃j:Nat,j≤l.length∧l.length-j=m∧e=[(1, .int .i64 (t:Nat)),(4, .pointer (some ⟨h.next+1,0,none⟩)),(6, .pointer (some ⟨H.next,0,none⟩)),(7, .slice a l.length cc),(8, .int .i64 (j:Nat))]∧ds=[]∧Ext h h'∧H1.next≤h'.next∧h'.get (h.next+1)=some (.cells (aM 8 (.int .u64 0)) true 1)∧h'.get H.next=some (.cells (us (jS (fC t) (l.take j))) true 1)∧Own H1.next h' 3 (.slice a l.length cc) l.length (ceS l))
  ⟨0,Nat.zero_le _,rfl,rfl,rfl,ey2',n2,gb2,q12,q⟩ ?_
 rintro m e ds h' ⟨j,hj,rfl,rfl,rfl,x,hn,gc,gd,ow⟩
 have Wh:=x.wf hr.wf
 have hLh:=x.log.trans hr.log
 clear gb2 q12 q
 by_cases hlt:j<l.length
 ·obtain⟨c,hc⟩:∃c,l[j]? =some c:=⟨l[j]'hlt,List.getElem?_eq_getElem _⟩
  have hcl:=hin c (List.mem_of_getElem? hc)
  obtain⟨b,o,c2,vs,own,tt,hv,gl,hbl,el,_,_,_⟩:=CeQ.elem (ow.slice (by omega)) hc
  cases hv
  have hO:IsS (jS (fC t) (l.take j)):=oN fun d hd=>kZ d (hin d (List.mem_of_mem_take hd))
  have hs1:jS (fC t) (l.take (j+1))=kP (jS (fC t) (l.take j)) (fC t c):=by rw[fS hc,oM]
  generalize jS (fC t) (l.take j)=out at*
  have C1:=CM hp F.f222 F.f267 (h:={h' with log:=[]}) (.of Wh) (jB.1 hcl) ht
  have hcl2:=kZ (t:=t) c hcl
  generalize fC t c=d at*
  have C2:=B5 hp F.f221 (h:={h' with log:=[]}) (.of Wh) hO hcl2
  have hO2:=hO.kP hcl2
  have k1:=bq hO.len
  have k2:=aP hO.len
  have k3:=aP hO2.len
  have k4:=hO.len
  have k5:=hO2.len
  have mlt:aq .lss (.int .i64 (j:Nat)) (.int .i64 (l.length:Nat))=some (.bool true):=fm (by omega)
  refine af ?_;refine y4 ?_;refine yM ?_;refine yM ?_;refine yD ?_;refine yW ?_;refine y3 ?_
  refine yY ?_;refine aB ?_;refine aN ?_;refine af ?_;refine au ?_;refine bQ ?_;refine qV ?_;refine qM ?_
  refine qM ?_;refine qI ?_;refine aI rfl rfl rfl (by exact rfl) (by exact rfl) (by exact rfl) (dA (by exact rfl) (by assumption) (by assumption) (by exact rfl)) ?_
  refine qM ?_
  refine qC ?_
  refine FW.puD C1 (by(repeat apply aW rfl);apply bL rfl (aU rfl (dA (by exact rfl) (by assumption) (by assumption) (by assumption)) (by exact zH _)) rfl;exact cM) ?_
  clear C1
  skip
  refine qC ?_
  refine FW.puD C2 (by apply aW rfl;exact cM) ?_
  clear C2
  refine zR rfl rfl rfl (by exact rfl) (by exact rfl) (by exact rfl) (by assumption) (by(simp only[aH];assumption)) (by(simp only[aH];assumption)) (by exact cW _) (by omega) (by omega) (by exact cM) ?_;refine cK ?_;refine y1 ?_;refine eD ?_;refine aN ?_
  refine aA ?_;refine yM ?_;refine fE ?_;refine yM ?_;refine y3 ?_
  refine⟨l.length-(j+1),by omega,j+1,by omega,rfl,rfl,rfl,⟨x.next,(Heap.aC (by omega)).trans x.log,fun b hb=>(z5 (by omega)).trans (x.old b hb),fun w=>(x.wf w).as (AS.wr h.next _ _ _)⟩,hn,(z5 (by omega)).trans gc,?_,ow.keep (Nat.le_refl _) fun z hz _=>z5 (by omega)⟩
  rw[hs1];(simp(disch:=first|omega|(simp only[z1,z2];omega))only[z3,z4,z5,z6,z7,z1,z2,gc,gl,gd];done)
 ·obtain rfl:j=l.length:=by omega
  rw[List.take_length]at gd
  have hO:IsS (jS (fC t) l):=oN fun d hd=>kZ d (hin d hd)
  generalize jS (fC t) l=out at*
  have k1:=bq hO.len
  have k2:=aP hO.len
  have k3:=hO.len
  have mlt:aq .lss (.int .i64 (l.length:Nat)) (.int .i64 (l.length:Nat))=some (.bool false):=fF (by omega)
  refine af ?_;refine y4 ?_;refine yM ?_;refine yM ?_;refine yD ?_;refine yW ?_;refine y3 ?_
  refine yX ?_;refine cA ?_;refine dy ?_;refine dy ?_;refine fV ?_;refine aN ?_;refine y4 ?_;refine yV ?_;refine ak (cO (by exact rfl) (by exact rfl) (by assumption) (by(simp only[aH];assumption)) (by exact rfl) (by exact cW _)) ?_
  refine yM ?_;refine y3 ?_;refine aJ ?_
  refine aF ?_ (bY (own:=true) (s:=1) rfl ?_ k1 k2 rfl) rfl
  ·rw[Heap.aC (by show h.next≤h.next+1;omega)];exact hLh
  ·(simp(disch:=first|omega|(simp only[z1,z2];omega))only[z3,z4,z5,z6,z7,z1,z2,gc,gd];done)
def shC(x y z:Int)(c:Ce):Ce:=⟨c.x+x,c.y+y,c.z+z⟩
def Sh7(n:Int):Prop:= -7≤n∧n≤7
theorem uR(hp:bg T)(hf:T 223=some f223){h:Heap}(hr:Rdy h){n:Int}(hn:Sh7 n):Pu T 223 [.int .i64 n] h (.bool true):=by
 refine .of hp hf hr rfl ?_
 have m1:aq .geq (.int .i64 n) (.int .i64 (-7))=some (.bool true):=AD hn.1
 have m2:aq .leq (.int .i64 n) (.int .i64 7)=some (.bool true):=kJ hn.2
 refine y4 ?_;refine yM ?_;refine y3 ?_;refine y4 ?_;refine yM ?_;refine yW ?_
 refine yM ?_;refine yO ?_;refine yM ?_;refine yO ?_;refine yW ?_;refine yT ?_;refine yM ?_;refine y3 ?_;refine aJ ?_
 exact aF hr.log rfl rfl
theorem Ej(hp:bg T)(hf:T 224=some f224){h:Heap}(hr:Rdy h){c:Ce}(hc:InB c){x y z:Int}(hx:Sh7 x)(hy:Sh7 y)(hz:Sh7 z):Pu T 224 [ceV c, .int .i64 x, .int .i64 y, .int .i64 z] h (ceV (shC x y z c)):=by
 refine .of hp hf hr rfl ?_
 obtain⟨cx,cy,cz⟩:=c
 obtain⟨kx,ky,kz⟩:=hc
 obtain⟨hx1,hx2⟩:=hx
 obtain⟨hy1,hy2⟩:=hy
 obtain⟨hz1,hz2⟩:=hz
 dsimp only at kx ky kz
 have mx:=lD (k:= .i64) (a:=cx) (b:=x) (bT (by omega) (by omega))
 have my:=lD (k:= .i64) (a:=cy) (b:=y) (bT (by omega) (by omega))
 have mz:=lD (k:= .i64) (a:=cz) (b:=z) (bT (by omega) (by omega))
 have ck:bV 3 (bE 0 (ceL (shC x y z ⟨cx,cy,cz⟩)))=ceL (shC x y z ⟨cx,cy,cz⟩):=rfl
 refine y4 ?_;refine yB ?_;refine ak (cQ) ?_;refine y3 ?_;refine y4 ?_;refine yF ?_
 refine yL ?_;refine yM ?_
 refine yW ?_;refine yF ?_
 refine yL ?_;refine yM ?_
 refine yW ?_;refine yF ?_
 refine yL ?_;refine yM ?_
 refine yW ?_;refine ak (cZ (by exact rfl)) ?_
 refine yS ?_;refine y3 ?_;refine aJ ?_
 refine aF ?_ (bY (own:=true) (s:=1) rfl ?_ ck rfl rfl) rfl
 ·rw[Heap.aC (by show h.next≤h.next+1;omega)];exact hr.log
 ·(simp(disch:=first|omega|(simp only[z1,z2];omega)|(simp only[z1,z2];done)|fail)only[z8,z4,z5,z9,z7,z1,z2];exact rfl)
set_option maxHeartbeats 8000000 in
theorem yJ(F:wZ T)(hg:T 225=some f225){h:Heap}(hr:Rdy h){s:List Nat}(hs:IsS s){x y z:Int}(hx:Sh7 x)(hy:Sh7 y)(hz:Sh7 z)(hall:∀c∈aR s 512,inG (shC x y z c)=true):Pu T 139 [sv s, .int .i64 x, .int .i64 y, .int .i64 z] h (.tuple #[sv (fZ (shC x y z) s), .int .i64 0]):=by
 have hp:=F.cr.hr.p
 refine .of hp F.f139 hr (BW _ 0) ?_
 have k8:=aP hs.len
 have k9:=bq hs.len
 have x0:Ext h ((h.push (.cells (cellsOf (sv s)) true 1)).push (.cells (aM 8 (.int .u64 0)) true 1)):=((Ext.refl h).push _).push _
 have g0:((h.push (.cells (cellsOf (sv s)) true 1)).push (.cells (aM 8 (.int .u64 0)) true 1)).get h.next=some (.cells (us s) true 1):=by(simp(disch:=first|omega|(simp only[z1,z2];omega))only[z3,z4,z5,z6,z7,z1,z2];exact rfl)
 have g1:((h.push (.cells (cellsOf (sv s)) true 1)).push (.cells (aM 8 (.int .u64 0)) true 1)).get (h.next+1)=some (.cells (aM 8 (.int .u64 0)) true 1):=by(simp(disch:=first|omega|(simp only[z1,z2];omega)|(simp only[z1,z2];done)|fail)only[z8,z4,z5,z9,z7,z1,z2,g0];done)
 have n0:((h.push (.cells (cellsOf (sv s)) true 1)).push (.cells (aM 8 (.int .u64 0)) true 1)).next=h.next+2:=rfl
 refine y4 ?_;refine yB ?_;refine ak (cQ) ?_;refine yM ?_;refine y3 ?_
 generalize((h.push (.cells (cellsOf (sv s)) true 1)).push (.cells (aM 8 (.int .u64 0)) true 1))=H at*
 have W:=x0.wf hr.wf
 have hL:=x0.log.trans hr.log
 have C:=pR F.cr (h:={H with log:=[]}) (.of W) hs
 have hin:∀c∈aR s 512,inG c=true:=fun c hc=>iw hc
 have hle:=gY s 512
 unfold fZ
 generalize aR s 512=l at*
 refine y4 ?_;refine yV ?_
 refine yC ?_
 refine FW.al C (fun v h' m q=>q.log m) ?_
 rintro v H2 x2 q
 clear C
 have ey2':=x0.trans x2
 have W2:=ey2'.wf hr.wf
 have hL2:=x2.log.trans hL
 have n2:=x2.next
 have gb2:=(x2.old _ (by omega)).trans g1
 obtain⟨a,cc,rfl⟩:=(q.slice (by omega)).form
 have C1:=uR hp F.f223 (h:={H2 with log:=[]}) (.of W2) hx
 have C2:=uR hp F.f223 (h:={H2 with log:=[]}) (.of W2) hy
 have C3:=uR hp F.f223 (h:={H2 with log:=[]}) (.of W2) hz
 clear g0 g1
 refine yM ?_;refine y3 ?_
 refine eY (E0:=[(1, .int .i64 x),(2, .int .i64 y),(3, .int .i64 z),(8, .pointer (some ⟨h.next+1,0,none⟩)),(10, .slice a l.length cc),(33, .bool false)]) (P:=fun h'=>H2=h') ?_ ?_
 ·by_cases hl:l.length=0
  ·have m1:aq .gtr (.int .i64 (l.length:Nat)) (.int .i64 0)=some (.bool false):=jA (by omega)
   refine y4 ?_;refine yM ?_;refine yD ?_;refine yW ?_;refine yM ?_;refine yP ?_;refine yP ?_;refine yP ?_
   refine yP ?_;refine oF (by exact rfl) ?_;refine oF (by exact rfl) ?_;refine oF (by exact rfl) ?_;refine yP ?_;refine yP ?_;refine oF (by exact rfl) ?_;refine oF (by exact rfl) ?_;refine oF (by exact rfl) ?_;refine yP ?_
   refine yU ?_;refine y3 ?_;refine yX ?_;refine aB ?_
   exact⟨rfl,rfl,rfl,rfl⟩
  ·have m1:aq .gtr (.int .i64 (l.length:Nat)) (.int .i64 0)=some (.bool true):=jj (by omega)
   refine y4 ?_;refine yM ?_;refine yD ?_;refine yW ?_;refine yM ?_;refine yO ?_;refine yM ?_;refine yO ?_
   refine yC ?_
   refine FW.pu C1 ?_
   refine yO ?_;refine yA ?_;refine yO ?_;refine yM ?_;refine yO ?_;refine yM ?_;refine yO ?_
   refine yC ?_
   refine FW.pu C2 ?_
   refine yO ?_;refine yA ?_;refine yO ?_;refine yU ?_;refine yO ?_;refine yM ?_;refine yO ?_;refine yM ?_;refine yO ?_
   refine yC ?_
   refine FW.pu C3 ?_
   refine yO ?_;refine yA ?_;refine yO ?_;refine yU ?_;refine yT ?_;refine y3 ?_;refine yX ?_
   refine aB ?_
   exact⟨rfl,rfl,rfl,rfl⟩
 rintro _ rfl
 clear C1 C2 C3
 have x3:Ext H2 (H2.push (.cells (aM 8 (.int .u64 0)) true 1)):=(Ext.refl H2).push _
 have q3:(H2.push (.cells (aM 8 (.int .u64 0)) true 1)).get H2.next=some (.cells (us s0) true 1):=z3 _ _
 have n3:(H2.push (.cells (aM 8 (.int .u64 0)) true 1)).next=H2.next+1:=rfl
 refine y4 ?_;refine ak (cQ) ?_;refine y3 ?_
 generalize(H2.push (.cells (aM 8 (.int .u64 0)) true 1))=H3 at*
 refine af ?_;refine y4 ?_;refine yM ?_;refine y3 ?_;refine au ?_
 refine cG (fun m e ds h'=>∃j:Nat,j≤l.length∧l.length-j=m∧e=[(1, .int .i64 x),(2, .int .i64 y),(3, .int .i64 z),(8, .pointer (some ⟨h.next+1,0,none⟩)),(10, .slice a l.length cc),(11, .pointer (some ⟨H2.next,0,none⟩)),(12, .int .i64 (j:Nat))]∧ds=[]∧Ext H2 h'∧H2.next<h'.next∧h'.get H2.next=some (.cells (us (jS (shC x y z) (l.take j))) true 1))
  ⟨0,Nat.zero_le _,rfl,rfl,rfl,x3,by omega,q3⟩ ?_
 rintro m e ds h' ⟨j,hj,rfl,rfl,rfl,xx,hn,gd⟩
 have ey:=ey2'.trans xx
 have Wh:=ey.wf hr.wf
 have hLh:=ey.log.trans hr.log
 have gc:=(xx.old _ (by omega)).trans gb2
 clear q3 x3
 by_cases hlt:j<l.length
 ·obtain⟨c,hc⟩:∃c,l[j]? =some c:=⟨l[j]'hlt,List.getElem?_eq_getElem _⟩
  have hcm:=List.mem_of_getElem? hc
  have hcl:=hin c hcm
  have hcl2:=hall c hcm
  obtain⟨b,o,c2,vs,own,tt,hv,gl,hbl,el,_,_,_⟩:=CeQ.elem ((q.slice (by omega)).ext xx) hc
  cases hv
  have hO:IsS (jS (shC x y z) (l.take j)):=oN fun d hd=>hall d (List.mem_of_mem_take hd)
  have hs1:jS (shC x y z) (l.take (j+1))=kP (jS (shC x y z) (l.take j)) (shC x y z c):=by rw[fS hc,oM]
  generalize jS (shC x y z) (l.take j)=out at*
  have C1:=Ej hp F.f224 (h:={h' with log:=[]}) (.of Wh) (jB.1 hcl) hx hy hz
  generalize shC x y z c=d at*
  have k1:=bq hO.len
  have k2:=aP hO.len
  have k4:=hO.len
  have mlt:aq .lss (.int .i64 (j:Nat)) (.int .i64 (l.length:Nat))=some (.bool true):=fm (by omega)
  refine af ?_;refine y4 ?_;refine yM ?_;refine yM ?_;refine yD ?_;refine yW ?_;refine y3 ?_
  refine yY ?_;refine aB ?_;refine aN ?_;refine af ?_;refine au ?_
  refine eY (E0:=[(1, .int .i64 x),(2, .int .i64 y),(3, .int .i64 z),(8, .pointer (some ⟨h.next+1,0,none⟩)),(10, .slice (some ⟨b,o,none⟩) l.length cc),(11, .pointer (some ⟨H2.next,0,none⟩)),(12, .int .i64 (j:Nat)),(13, .pointer (some ⟨h'.next,0,none⟩))]) (P:=fun h4=>Ext h' h4∧h4.next=h'.next+1∧h4.get h'.next=some (.cells (ceL d) true 1)) ?_ ?_
  ·refine aA ?_;refine yM ?_;refine yM ?_;refine yI ?_;refine ak (dA (by exact rfl) (by assumption) (by assumption) (by exact rfl)) ?_;refine yM ?_;refine yM ?_;refine yM ?_
   refine yC ?_
   refine FW.pu C1 ?_
   clear C1
   refine ak (cQ) ?_;refine yS ?_;refine dK ?_
   refine y1 ?_
   exact⟨rfl,rfl,rfl,iB (by omega) _ _,rfl,jx _ _⟩
  rintro H4 ⟨x4,n4,g4⟩
  clear C1
  have W4:=x4.wf Wh
  have L4:=x4.log.trans hLh
  have gd4:=(x4.old _ (by omega)).trans gd
  have C2:=vo hp hg (h:={H4 with log:=[]}) (.of W4) d
  rw[hcl2]at C2
  have C3:=B5 hp F.f221 (h:={H4 with log:=[]}) (.of W4) hO hcl2
  have hO2:=hO.kP hcl2
  have k3:=aP hO2.len
  have k5:=hO2.len
  have ck:bV 3 (bE 0 (ceL d))=ceL d:=rfl
  have ckl:Nat.beq (bR (ceL d)) 3=true:=rfl
  clear gd gl
  refine af ?_;refine y4 ?_;refine yN ?_
  refine yC ?_
  refine FW.pu C2 ?_
  clear C2
  refine yA ?_;refine y3 ?_;refine yX ?_;refine aB ?_;refine aN ?_;refine aA ?_;refine yV ?_
  refine yN ?_
  refine yC ?_
  refine FW.pu C3 ?_
  clear C3
  refine ak (cO (by exact rfl) (by exact rfl) (by assumption) (by(simp only[aH];assumption)) (by(simp only[aH];assumption)) (by exact cW _)) ?_;refine dK ?_;refine y1 ?_;refine eD ?_;refine aN ?_;refine aA ?_;refine yM ?_
  refine fE ?_;refine yM ?_;refine y3 ?_
  have xx4:=xx.trans x4
  refine⟨l.length-(j+1),by omega,j+1,by omega,rfl,rfl,rfl,⟨xx4.next,(Heap.aC (by omega)).trans xx4.log,fun b hb=>(z5 (by omega)).trans (xx4.old b hb),fun w=>(xx4.wf w).as (AS.wr h.next _ _ _)⟩,by show H2.next<H4.next;omega,?_⟩
  rw[hs1];(simp(disch:=first|omega|(simp only[z1,z2];omega))only[z3,z4,z5,z6,z7,z1,z2,gb2,gc,g4,gd4];done)
 ·obtain rfl:j=l.length:=by omega
  rw[List.take_length]at gd
  have hO:IsS (jS (shC x y z) l):=oN fun d hd=>hall d hd
  generalize jS (shC x y z) l=out at*
  have k1:=bq hO.len
  have k2:=aP hO.len
  have k3:=hO.len
  have mlt:aq .lss (.int .i64 (l.length:Nat)) (.int .i64 (l.length:Nat))=some (.bool false):=fF (by omega)
  refine af ?_;refine y4 ?_;refine yM ?_;refine yM ?_;refine yD ?_;refine yW ?_;refine y3 ?_
  refine yX ?_;refine cA ?_;refine dy ?_;refine dy ?_;refine fV ?_;refine aN ?_;refine y4 ?_;refine yV ?_;refine ak (cO (by exact rfl) (by exact rfl) (by assumption) (by(simp only[aH];assumption)) (by exact rfl) (by exact cW _)) ?_
  refine yM ?_;refine y3 ?_;refine aJ ?_
  refine aF ?_ (bY (own:=true) (s:=1) rfl ?_ k1 k2 rfl) rfl
  ·rw[Heap.aC (by show h.next≤h.next+1;omega)];exact hLh
  ·(simp(disch:=first|omega|(simp only[z1,z2];omega))only[z3,z4,z5,z6,z7,z1,z2,gb2,gc,gd];done)
theorem wg{s:List Nat}(hs:IsS s)(h:aR s 512=[]):s=s0:=by
 refine sU hs vr fun z i hz hi=> ?_
 rw[lp]
 cases hc:dY s (dX z i)with
 |false=>rfl
 |true=>
  have:dX z i∈aR s 512:=List.mem_filter.2 ⟨List.mem_map.2 ⟨z*64+i,List.mem_range.2 (by omega),xS hi⟩,hc⟩
  rw[h]at this;cases this
theorem Gk:aR s0 512=[]:=by
 rw[aR,List.filter_eq_nil_iff]
 intro c _
 rw[lp];simp
theorem HT{c:Ce}(hc:InB c):ng ⟨c,c⟩ c=ng bx0 c:=by
 obtain⟨cx,cy,cz⟩:=c
 obtain⟨hx,hy,hz⟩:=hc
 dsimp only at hx hy hz
 unfold ng bx0 mi mx
 dsimp only
 congr 1<;>congr 1<;>(repeat' split)<;>omega
theorem CZ{c:Ce}(hc:InB c)(l:List Ce):(c::l).foldl ng ⟨c,c⟩=bxS (c::l):=by
 unfold bxS
 rw[List.foldl_cons,List.foldl_cons,HT hc]
set_option maxHeartbeats 16000000 in
theorem vT(F:wZ T)(hf:T 138=some f138){h:Heap}(hr:Rdy h){s:List Nat}(hs:IsS s):Pu T 138 [sv s] h (CK (bD s)):=by
 have hp:=F.cr.hr.p
 refine .of hp hf hr rfl ?_
 have k8:=aP hs.len
 have k9:=bq hs.len
 have x0:Ext h ((h.push (.cells (cellsOf (sv s)) true 1)).push (.cells [I.O,I.O,I.O,I.O,I.O,I.O] true 1)):=((Ext.refl h).push _).push _
 have g0:((h.push (.cells (cellsOf (sv s)) true 1)).push (.cells [I.O,I.O,I.O,I.O,I.O,I.O] true 1)).get h.next=some (.cells (us s) true 1):=(z4 (Nat.lt_succ_self _)).trans (z3 h _)
 have g1:((h.push (.cells (cellsOf (sv s)) true 1)).push (.cells [I.O,I.O,I.O,I.O,I.O,I.O] true 1)).get (h.next+1)=some (.cells [I.O,I.O,I.O,I.O,I.O,I.O] true 1):=z3 _ _
 have n0:((h.push (.cells (cellsOf (sv s)) true 1)).push (.cells [I.O,I.O,I.O,I.O,I.O,I.O] true 1)).next=h.next+2:=rfl
 refine y4 ?_;refine yB ?_;refine ak (cQ) ?_;refine yM ?_;refine y3 ?_
 generalize((h.push (.cells (cellsOf (sv s)) true 1)).push (.cells [I.O,I.O,I.O,I.O,I.O,I.O] true 1))=H at*
 have W:=x0.wf hr.wf
 have hL:=x0.log.trans hr.log
 have C:=pR F.cr (h:={H with log:=[]}) (.of W) hs
 have hin:∀c∈aR s 512,inG c=true:=fun c hc=>iw hc
 have hle:=gY s 512
 have hnil:aR s 512=[]↔s=s0:=⟨wg hs,fun e=>by rw[e];exact Gk⟩
 have hbn:bD s=if aR s 512=[]then(⟨c0,c0⟩,false)else(bxS (aR s 512),true):=by
  unfold bD
  by_cases e:s=s0
  ·rw[if_pos e,if_pos (hnil.2 e)]
  ·rw[if_neg e,if_neg (fun q=>e (hnil.1 q))]
 rw[hbn]
 generalize aR s 512=l at*
 refine y4 ?_;refine yV ?_
 refine yC ?_
 refine FW.al C (fun v h' m q=>q.log m) ?_
 rintro v H2 x2 q
 clear C
 have ey2':=x0.trans x2
 have W2:=ey2'.wf hr.wf
 have hL2:=x2.log.trans hL
 have n2:=x2.next
 have gb2:=(x2.old _ (by omega)).trans g1
 clear g0 g1
 cases l with
 |nil=>
  obtain rfl:v= .slice none 0 0:=by
   cases q with
   |nil=>rfl
   |full a b c d e=>exact absurd rfl e
  rw[if_pos rfl]
  have ck0:bV 6 (bE 0 (bxL ⟨c0,c0⟩))=bxL ⟨c0,c0⟩:=rfl
  refine yM ?_;refine y3 ?_;refine af ?_;refine y4 ?_;refine yM ?_;refine yD ?_;refine yt ?_
  refine y3 ?_;refine yY ?_;refine y4 ?_;refine ak (cZ (by exact rfl)) ?_;refine yS ?_;refine yM ?_
  refine y3 ?_;refine aJ ?_;refine eC ?_
  refine aF ?_ (bY (own:=true) (s:=1) (l:=bxL ⟨c0,c0⟩) rfl ?_ ck0 rfl rfl) rfl
  ·rw[Heap.aC (by show h.next≤h.next+1;omega)];exact hL2
  ·(simp(disch:=first|omega|(simp only[z1,z2];omega))only[z3,z4,z5,z6,z7,z1,z2,gb2];exact rfl)
 |cons d r=>
  rw[if_neg (by simp)]
  have hd:=jB.1 (hin d List.mem_cons_self)
  rw[←CZ hd r]
  have qs:=q.slice (by omega)
  obtain⟨b,o,cc,vs,own,tt,rfl,gl,hbl,el,_,_,_⟩:=CeQ.elem (i:=0) (x:=d) qs rfl
  clear q
  generalize hl:d::r=l at*
  have hl0:0<l.length:=by rw[←hl];simp
  clear hl
  have m0:aq .eql (.int .i64 (l.length:Nat)) (.int .i64 0)=some (.bool false):=xz (by omega)
  have x5:=iB (h:=H2) (base:=h.next) (by omega) (.cells [I.O,I.O,I.O,I.O,I.O,I.O] true 1) (.cells (bxL ⟨d,d⟩) true 1)
  have g5:=jx (h:=H2) (base:=h.next) [I.O,I.O,I.O,I.O,I.O,I.O] (bxL ⟨d,d⟩)
  have ckb:bV 6 (bE 0 (bxL ⟨d,d⟩))=bxL ⟨d,d⟩:=rfl
  refine yM ?_;refine y3 ?_;refine af ?_;refine y4 ?_;refine yM ?_;refine yD ?_;refine yW ?_
  refine y3 ?_;refine yX ?_;refine aB ?_;refine aN ?_
  refine eY (E0:=[(2, .pointer (some ⟨h.next+1,0,none⟩)),(4, .slice (some ⟨b,o,none⟩) l.length cc),(5, .pointer (some ⟨H2.next,0,none⟩))]) (P:=fun h'=>Ext H2 h'∧H2.next<h'.next∧h'.get H2.next=some (.cells (bxL ⟨d,d⟩) true 1)) ?_ ?_
  ·refine bQ ?_;refine qM ?_;refine qI ?_;refine aI rfl rfl rfl (by exact rfl) (by exact rfl) (by exact rfl) (dA (by exact rfl) (by assumption) (by assumption) (by exact rfl)) ?_
   refine qM ?_;refine qI ?_;refine aI rfl rfl rfl (by exact rfl) (by exact rfl) (by exact rfl) (dA (by exact rfl) (by assumption) (by assumption) (by exact rfl)) ?_
   refine aI rfl rfl rfl (by exact rfl) (by exact rfl) (by exact rfl) (cZ (by exact rfl)) ?_
   refine Ay rfl rfl rfl (by exact rfl) (by exact rfl) (by exact rfl) cQ (by refine eT (aU rfl (cZ (by exact rfl)) (by refine mH ?_;refine dH (ew _ _) ?_;refine dH (ew _ _) ?_;refine dH (ew _ _) ?_;refine dH (ew _ _) ?_;refine dH (ew _ _) ?_;refine dH (ew _ _) ?_;exact Bl)) ?_;refine eT (aU rfl (dA (by exact rfl) (by(simp(disch:=first|omega|(simp only[z1,z2];omega))only[z3,z4,z5,z6,z7,z1,z2,gb2,gl,g5];exact rfl)) (by assumption) (by exact rfl)) (by refine mH ?_;refine dH (ew _ _) ?_;refine dH (ew _ _) ?_;refine dH (ew _ _) ?_;exact Bl)) ?_;refine eT (aU rfl (qf (by exact rfl) (by exact rfl) (by omega)) (by exact eF _)) ?_;refine eT (aU rfl (mY (by exact rfl)) (by exact pS _ _ _)) ?_;refine eT (aU rfl (dA (by exact rfl) (by(simp(disch:=first|omega|(simp only[z1,z2];omega))only[z3,z4,z5,z6,z7,z1,z2,gb2,gl,g5];exact rfl)) (by assumption) (by exact rfl)) (by refine mH ?_;refine dH (ew _ _) ?_;refine dH (ew _ _) ?_;refine dH (ew _ _) ?_;exact Bl)) ?_;refine eT (aU rfl (qf (by exact rfl) (by exact rfl) (by omega)) (by exact eF _)) ?_;refine eT (aU rfl (mY (by exact rfl)) (by exact pS _ _ _)) ?_;exact Av) ?_
   refine iD rfl rfl rfl (by exact rfl) (by exact rfl) (by exact rfl) (by(simp(disch:=first|omega|(simp only[z1,z2];omega))only[z3,z4,z5,z6,z7,z1,z2,gb2,gl,g5];exact rfl)) (by exact rfl) (by exact rfl) (by(simp only[z1,z2];omega)) (by omega) (by(repeat apply aW rfl);exact cM) ?_
   refine cK ?_;refine y1 ?_
   exact⟨rfl,rfl,rfl,x5,Nat.lt_succ_self _,g5⟩
  clear x5 g5
  rintro H5 ⟨x5,n5,g5⟩
  clear gl el
  refine af ?_;refine y4 ?_;refine yM ?_;refine y3 ?_;refine au ?_
  refine cG (fun m e ds h'=>∃j:Nat,j≤l.length∧l.length-j=m∧e=[(2, .pointer (some ⟨h.next+1,0,none⟩)),(4, .slice (some ⟨b,o,none⟩) l.length cc),(5, .pointer (some ⟨H2.next,0,none⟩)),(6, .int .i64 (j:Nat))]∧ds=[]∧Ext H2 h'∧H2.next<h'.next∧h'.get H2.next=some (.cells (bxL ((l.take j).foldl ng ⟨d,d⟩)) true 1))
   ⟨0,Nat.zero_le _,rfl,rfl,rfl,x5,n5,g5⟩ ?_
  rintro m e ds h' ⟨j,hj,rfl,rfl,rfl,xx,hn,gd⟩
  have ey:=ey2'.trans xx
  have Wh:=ey.wf hr.wf
  have hLh:=ey.log.trans hr.log
  have gc:=(xx.old _ (by omega)).trans gb2
  clear g5 x5 n5
  by_cases hlt:j<l.length
  ·obtain⟨c,hc⟩:∃c,l[j]? =some c:=⟨l[j]'hlt,List.getElem?_eq_getElem _⟩
   obtain⟨b',o',c2,vs',own',tt',hv,gl,_,el,e1,e2,e3⟩:=CeQ.elem (qs.ext xx) hc
   cases hv
   have hs1:(l.take (j+1)).foldl ng ⟨d,d⟩=ng ((l.take j).foldl ng ⟨d,d⟩) c:=by rw[fS hc,List.foldl_append];rfl
   generalize(l.take j).foldl ng ⟨d,d⟩=bb at*
   have mlt:aq .lss (.int .i64 (j:Nat)) (.int .i64 (l.length:Nat))=some (.bool true):=fm (by omega)
   have hbq:b<H2.next:=hbl
   obtain⟨⟨x1,ey1,z1q⟩,⟨x2q,eyy2,z2q⟩⟩:=bb
   obtain⟨cx,cy,cz⟩:=c
   dsimp only at e1 e2 e3
   unfold bxL ceL at gd
   dsimp only[List.cons_append,List.nil_append]at gd
   clear gc
   refine af ?_;refine y4 ?_;refine yM ?_;refine yM ?_;refine yD ?_;refine yW ?_;refine y3 ?_
   refine yY ?_;refine aB ?_;refine aN ?_;refine af ?_;refine au ?_;refine af ?_;refine bQ ?_;refine qF ?_;refine qF ?_
   refine qL ?_;refine qM ?_;refine qM ?_
   refine qI ?_;refine qF ?_;refine qK ?_
   refine aI rfl rfl rfl (by exact rfl) (by exact rfl) (by exact rfl) (mG (by exact rfl) (by exact rfl)) ?_;refine qF ?_;refine qF ?_
   refine iD rfl rfl rfl (by exact rfl) (by exact rfl) (by exact rfl) (by assumption) (by exact rfl) (by exact rfl) (by omega) (by omega) (by(repeat apply aW rfl);exact cM) ?_;refine cK ?_
   refine y1 ?_;refine aN ?_;refine af ?_;refine bQ ?_;refine qF ?_;refine qF ?_
   refine qL ?_
   refine qM ?_;refine qM ?_;refine qI ?_
   refine qF ?_
   refine aI rfl rfl rfl (by exact rfl) (by exact rfl) (by exact rfl) (ek (by exact rfl) (by(simp(disch:=first|omega|(simp only[z1,z2];omega))only[z3,z4,z5,z6,z7,z1,z2,gb2,gl,gd];exact rfl)) (by assumption)) ?_
   refine aI rfl rfl rfl (by exact rfl) (by exact rfl) (by exact rfl) (mG (by exact rfl) (by exact rfl)) ?_;refine qF ?_;refine qF ?_
   refine iD rfl rfl rfl (by exact rfl) (by exact rfl) (by exact rfl) (by(simp(disch:=first|omega|(simp only[z1,z2];omega))only[z3,z4,z5,z6,z7,z1,z2,gb2,gl,gd];exact rfl)) (by exact rfl) (by exact rfl) (by(simp only[z1,z2];omega)) (by omega) (by(repeat apply aW rfl);exact cM) ?_
   refine cK ?_;refine y1 ?_;refine aN ?_;refine af ?_;refine bQ ?_;refine qF ?_;refine qF ?_
   refine qL ?_
   refine qM ?_;refine qM ?_;refine qI ?_
   refine qF ?_
   refine aI rfl rfl rfl (by exact rfl) (by exact rfl) (by exact rfl) (ek (by exact rfl) (by(simp(disch:=first|omega|(simp only[z1,z2];omega))only[z3,z4,z5,z6,z7,z1,z2,gb2,gl,gd];exact rfl)) (by assumption)) ?_
   refine aI rfl rfl rfl (by exact rfl) (by exact rfl) (by exact rfl) (mG (by exact rfl) (by exact rfl)) ?_;refine qF ?_;refine qF ?_
   refine iD rfl rfl rfl (by exact rfl) (by exact rfl) (by exact rfl) (by(simp(disch:=first|omega|(simp only[z1,z2];omega))only[z3,z4,z5,z6,z7,z1,z2,gb2,gl,gd];exact rfl)) (by exact rfl) (by exact rfl) (by(simp only[z1,z2];omega)) (by omega) (by(repeat apply aW rfl);exact cM) ?_
   refine cK ?_;refine y1 ?_;refine aN ?_;refine af ?_;refine bQ ?_;refine qF ?_;refine qF ?_
   refine qL ?_
   refine qM ?_;refine qM ?_;refine qI ?_
   refine qF ?_
   refine aI rfl rfl rfl (by exact rfl) (by exact rfl) (by exact rfl) (ek (by exact rfl) (by(simp(disch:=first|omega|(simp only[z1,z2];omega))only[z3,z4,z5,z6,z7,z1,z2,gb2,gl,gd];exact rfl)) (by assumption)) ?_
   refine aI rfl rfl rfl (by exact rfl) (by exact rfl) (by exact rfl) (qv (by exact rfl) (by exact rfl)) ?_;refine qF ?_;refine qF ?_
   refine iD rfl rfl rfl (by exact rfl) (by exact rfl) (by exact rfl) (by(simp(disch:=first|omega|(simp only[z1,z2];omega))only[z3,z4,z5,z6,z7,z1,z2,gb2,gl,gd];exact rfl)) (by exact rfl) (by exact rfl) (by(simp only[z1,z2];omega)) (by omega) (by(repeat apply aW rfl);exact cM) ?_
   refine cK ?_;refine y1 ?_;refine aN ?_;refine af ?_;refine bQ ?_;refine qF ?_;refine qF ?_
   refine qL ?_
   refine qM ?_;refine qM ?_;refine qI ?_
   refine qF ?_
   refine aI rfl rfl rfl (by exact rfl) (by exact rfl) (by exact rfl) (ek (by exact rfl) (by(simp(disch:=first|omega|(simp only[z1,z2];omega))only[z3,z4,z5,z6,z7,z1,z2,gb2,gl,gd];exact rfl)) (by assumption)) ?_
   refine aI rfl rfl rfl (by exact rfl) (by exact rfl) (by exact rfl) (qv (by exact rfl) (by exact rfl)) ?_;refine qF ?_;refine qF ?_
   refine iD rfl rfl rfl (by exact rfl) (by exact rfl) (by exact rfl) (by(simp(disch:=first|omega|(simp only[z1,z2];omega))only[z3,z4,z5,z6,z7,z1,z2,gb2,gl,gd];exact rfl)) (by exact rfl) (by exact rfl) (by(simp only[z1,z2];omega)) (by omega) (by(repeat apply aW rfl);exact cM) ?_
   refine cK ?_;refine y1 ?_;refine aN ?_;refine bQ ?_;refine qF ?_;refine qF ?_
   refine qL ?_
   refine qM ?_;refine qM ?_;refine qI ?_
   refine qF ?_
   refine aI rfl rfl rfl (by exact rfl) (by exact rfl) (by exact rfl) (ek (by exact rfl) (by(simp(disch:=first|omega|(simp only[z1,z2];omega))only[z3,z4,z5,z6,z7,z1,z2,gb2,gl,gd];exact rfl)) (by assumption)) ?_
   refine aI rfl rfl rfl (by exact rfl) (by exact rfl) (by exact rfl) (qv (by exact rfl) (by exact rfl)) ?_;refine qF ?_;refine qF ?_
   refine iD rfl rfl rfl (by exact rfl) (by exact rfl) (by exact rfl) (by(simp(disch:=first|omega|(simp only[z1,z2];omega))only[z3,z4,z5,z6,z7,z1,z2,gb2,gl,gd];exact rfl)) (by exact rfl) (by exact rfl) (by(simp only[z1,z2];omega)) (by omega) (by(repeat apply aW rfl);exact cM) ?_
   refine cK ?_;refine y1 ?_;refine eD ?_;refine aN ?_;refine aA ?_;refine yM ?_;refine fE ?_;refine yM ?_;refine y3 ?_
   refine⟨l.length-(j+1),by omega,j+1,by omega,rfl,rfl,rfl,⟨xx.next,?_,fun z hz=> ?_,fun w=> ?_⟩,hn,?_⟩
   ·rw[Heap.aC (by omega),Heap.aC (by omega),Heap.aC (by omega),Heap.aC (by omega),Heap.aC (by omega),Heap.aC (by omega)];exact xx.log
   ·simp only[z5 (show z≠H2.next by omega)];exact xx.old z hz
   ·exact((((((xx.wf w).as (AS.wr h.next _ _ _)).as (AS.wr h.next _ _ _)).as (AS.wr h.next _ _ _)).as (AS.wr h.next _ _ _)).as (AS.wr h.next _ _ _)).as (AS.wr h.next _ _ _)
   ·rw[hs1];exact(Heap.bw (Heap.bw (Heap.bw (Heap.bw (Heap.bw (Heap.bw (gd))))))).trans rfl
  ·obtain rfl:j=l.length:=by omega
   rw[List.take_length]at gd
   generalize l.foldl ng ⟨d,d⟩=bb at*
   have ck:bV 6 (bE 0 (bxL bb))=bxL bb:=rfl
   have ckl:Nat.beq (bR (bxL bb)) 6=true:=rfl
   have mlt:aq .lss (.int .i64 (l.length:Nat)) (.int .i64 (l.length:Nat))=some (.bool false):=fF (by omega)
   refine af ?_;refine y4 ?_;refine yM ?_;refine yM ?_;refine yD ?_;refine yW ?_;refine y3 ?_
   refine yX ?_;refine cA ?_;refine dy ?_;refine dy ?_;refine fV ?_;refine aN ?_;refine y4 ?_;refine yN ?_;refine yS ?_;refine yM ?_
   refine y3 ?_;refine aJ ?_
   refine aF ?_ (bY (own:=true) (s:=1) (l:=bxL bb) rfl ?_ ck ckl rfl) rfl
   ·rw[Heap.aC (by show h.next≤h.next+1;omega)];exact hLh
   ·(simp(disch:=first|omega|(simp only[z1,z2];omega))only[z3,z4,z5,z6,z7,z1,z2,gb2,gc,gd];exact rfl)
end Go.A.Pk
end
section
set_option maxRecDepth 100000
namespace Go.A.Pk
theorem zV{z i z' i':Nat}(h:dX z i=dX z' i'):z=z'∧i=i':=by
 unfold dX at h
 injection h with h1 h2 h3
 omega
theorem JY{o:List Nat}(ho:IsS o){d:Ce}(hd:inG d=true)(c:Ce):dY (kP o d) c=(dY o c||decide (c=d)):=by
 by_cases hc:inG c=true
 ·obtain⟨z,i,hz,hi,rfl⟩:=hM hc
  obtain⟨m,j,hm,hj,rfl⟩:=hM hd
  rw[fR hz hi,fR hz hi,sM o hj]
  by_cases e:m=z
  ·subst e
   have e1:(o.set m (Nat.lor (o.getD m 0) (2 ^ j))).getD m 0=Nat.lor (o.getD m 0) (2 ^ j):=by
    rw[List.getD_eq_getElem?_getD,List.getElem?_set_self (by rw[ho.len];exact hm)];rfl
   rw[e1]
   show Nat.testBit (o.getD m 0|||2 ^ j) i=_
   rw[Nat.testBit_or,Nat.testBit_two_pow]
   congr 1
   by_cases e2:j=i
   ·subst e2;simp
   ·rw[decide_eq_false e2,decide_eq_false (fun q=>e2 (zV q).2.symm)]
  ·have e1:(o.set m (Nat.lor (o.getD m 0) (2 ^ j))).getD z 0=o.getD z 0:=by
    rw[List.getD_eq_getElem?_getD,List.getElem?_set_ne e,←List.getD_eq_getElem?_getD]
   rw[e1,decide_eq_false (fun q=>e (zV q).1.symm),Bool.or_false]
 ·rw[ia hc,ia hc,decide_eq_false (fun(q:c=d)=>hc (by rw[q];exact hd))];rfl
theorem Ei{f:Ce→Ce}(c:Ce):∀{l:List Ce},(∀x∈l,inG (f x)=true)→(dY (jS f l) c=true↔ ∃x∈l,f x=c):=by
 intro l
 have:∀(l:List Ce) (o:List Nat),IsS o→(∀x∈l,inG (f x)=true)→(dY (l.foldl (fun o c=>kP o (f c)) o) c=true↔dY o c=true∨∃x∈l,f x=c):=by
  intro l
  induction l with
  |nil=>intro o _ _;simp
  |cons d l ih=>
   intro o ho hl
   rw[List.foldl_cons,ih _ (ho.kP (hl d List.mem_cons_self)) fun x hx=>hl x (List.mem_cons_of_mem _ hx),JY ho (hl d List.mem_cons_self),Bool.or_eq_true,decide_eq_true_eq]
   constructor
   ·rintro((h|h)|⟨x,hx,h⟩)
    ·exact .inl h
    ·exact .inr ⟨d,List.mem_cons_self,h.symm⟩
    ·exact .inr ⟨x,List.mem_cons_of_mem _ hx,h⟩
   ·rintro(h|⟨x,hx,h⟩)
    ·exact .inl (.inl h)
    ·rcases List.mem_cons.1 hx with rfl|hx
     ·exact .inl (.inr h.symm)
     ·exact .inr ⟨x,hx,h⟩
 intro hl
 have e:=this l s0 vr hl
 rw[lp]at e
 simpa[jS]using e
theorem dB{s:List Nat}{c:Ce}:c∈aR s 512↔dY s c=true:=by
 constructor
 ·intro h;exact(List.mem_filter.1 h).2
 ·intro h
  have hc:inG c=true:=by
   cases hq:inG c with
   |true=>rfl
   |false=>rw[ia (by rw[hq];simp)]at h;cases h
  obtain⟨z,i,hz,hi,rfl⟩:=hM hc
  exact List.mem_filter.2 ⟨EL hz hi,h⟩
theorem iG{f:Ce→Ce}{s:List Nat}(h:∀x∈aR s 512,inG (f x)=true)(c:Ce):dY (fZ f s) c=true↔ ∃x,dY s x=true∧f x=c:=by
 unfold fZ
 rw[Ei c h]
 constructor
 ·rintro⟨x,hx,e⟩;exact⟨x,dB.1 hx,e⟩
 ·rintro⟨x,hx,e⟩;exact⟨x,dB.2 hx,e⟩
theorem Iq{p:Nat}{k:Int}{i:Nat}(hi:i<64):Nat.testBit (shP p k) i=(decide (0≤(i:Int)-k)&&Nat.testBit p ((i:Int)-k).toNat):=by
 unfold shP
 split
 ·rename_i h
  show Nat.testBit ((p<<<k.toNat) % 2 ^ 64) i=_
  rw[Nat.testBit_mod_two_pow,decide_eq_true hi,Bool.true_and,Nat.testBit_shiftLeft]
  by_cases hk:k.toNat≤i
  ·rw[decide_eq_true (show i≥k.toNat from hk),decide_eq_true (show 0≤(i:Int)-k by omega),show((i:Int)-k).toNat=i-k.toNat by omega]
  ·rw[decide_eq_false (show¬i≥k.toNat from hk),decide_eq_false (show¬0≤(i:Int)-k by omega)];rfl
 ·rename_i h
  show Nat.testBit (p>>>(-k).toNat) i=_
  rw[Nat.testBit_shiftRight,decide_eq_true (show 0≤(i:Int)-k by omega),show((i:Int)-k).toNat=(-k).toNat+i by omega];rfl
theorem tn{s:List Nat}(hs:IsS s){a:Nat}{z k:Int}:∀{n:Nat},0≤(a:Int)+z→(a:Int)+z+(n:Nat)≤8→∀m:Nat,m<8→
 (jJ s a z k n).getD m 0=if(a:Int)+z≤(m:Int)∧(m:Int)<(a:Int)+z+(n:Nat)then shP (s.getD ((m:Int)-z).toNat 0) k else 0
 |0,_,_,m,hm=>by
  rw[if_neg (by omega)]
  have:∀z:Fin 8,s0.getD z.val 0=0:=by decide
  exact this ⟨m,hm⟩
 |n+1,h1,h2,m,hm=>by
  have ih:=tn (k:=k) hs (n:=n) h1 (by omega) m hm
  unfold jJ
  by_cases e:(((a+n:Nat):Int)+z).toNat=m
  ·rw[List.getD_eq_getElem?_getD,e,List.getElem?_set_self (by rw[(l9 hs a z k n).len];exact hm),if_pos (by omega)]
   show shP (s.getD (a+n) 0) k=_
   rw[show((m:Int)-z).toNat=a+n by omega]
  ·rw[List.getD_eq_getElem?_getD,List.getElem?_set_ne e,←List.getD_eq_getElem?_getD,ih]
   by_cases q:(a:Int)+z≤(m:Int)∧(m:Int)<(a:Int)+z+(n:Nat)
   ·rw[if_pos q,if_pos (by omega)]
   ·rw[if_neg q,if_neg (by omega)]
theorem Ir{x i:Nat}(hx:x<U64)(h:x.testBit i=true):i<64:=by
 rcases Nat.lt_or_ge i 64 with hi|hi
 ·exact hi
 ·rw[Nat.testBit_lt_two_pow (Nat.lt_of_lt_of_le hx (show 2 ^ 64≤2 ^ i from Nat.pow_le_pow_right (by omega) hi))]at h;cases h
theorem lE{s:List Nat}{c:Ce}(h:dY s c=true):((bD s).1.lo.x≤c.x∧c.x≤(bD s).1.hi.x)∧((bD s).1.lo.y≤c.y∧c.y≤(bD s).1.hi.y)∧((bD s).1.lo.z≤c.z∧c.z≤(bD s).1.hi.z):=by
 have hc:=dB.2 h
 have h0:¬s=s0:=fun q=>by rw[q,lp]at h;cases h
 have e:(bD s).1=bxS (aR s 512):=by unfold bD;rw[if_neg h0]
 rw[e,A4]
 exact⟨⟨(xI (·.x) _ 7).2 c hc,(wT (·.x) _ 0).2 c hc⟩,⟨(xI (·.y) _ 7).2 c hc,(wT (·.y) _ 0).2 c hc⟩,⟨(xI (·.z) _ 7).2 c hc,(wT (·.z) _ 0).2 c hc⟩⟩
theorem KW{s:List Nat}(h0:¬s=s0){x y z:Int}(hx:x≤7)(hy:y≤7)(hz:z≤7)(h:∀c,dY s c=true→x≤c.x∧y≤c.y∧z≤c.z):x≤(bD s).1.lo.x∧y≤(bD s).1.lo.y∧z≤(bD s).1.lo.z:=by
 have e:(bD s).1=bxS (aR s 512):=by unfold bD;rw[if_neg h0]
 rw[e,A4]
 exact⟨xT (·.x) _ 7 hx fun c hc=>(h c (dB.1 hc)).1,xT (·.y) _ 7 hy fun c hc=>(h c (dB.1 hc)).2.1,xT (·.z) _ 7 hz fun c hc=>(h c (dB.1 hc)).2.2⟩
theorem Bm{s:List Nat}(h0:¬s=s0){x y z:Int}(hx:0≤x)(hy:0≤y)(hz:0≤z)(h:∀c,dY s c=true→c.x≤x∧c.y≤y∧c.z≤z):(bD s).1.hi.x≤x∧(bD s).1.hi.y≤y∧(bD s).1.hi.z≤z:=by
 have e:(bD s).1=bxS (aR s 512):=by unfold bD;rw[if_neg h0]
 rw[e,A4]
 exact⟨wE (·.x) _ 0 hx fun c hc=>(h c (dB.1 hc)).1,wE (·.y) _ 0 hy fun c hc=>(h c (dB.1 hc)).2.1,wE (·.z) _ 0 hz fun c hc=>(h c (dB.1 hc)).2.2⟩
theorem GQ{s:List Nat}{c:Ce}(h:dY s c=true):inG c=true:=by
 cases hq:inG c with
 |true=>rfl
 |false=>rw[ia (by rw[hq];simp)]at h;cases h
theorem l7{s:List Nat}(hs:IsS s)(h0:¬s=s0):∃c,dY s c=true:=by
 cases hl:aR s 512 with
 |nil=>exact absurd (wg hs hl) h0
 |cons c l=>exact⟨c,dB.1 (by rw[hl];exact List.mem_cons_self)⟩
structure Rng (b:Bx) (x y z:Int):Prop where
 x:0≤b.lo.x+x∧b.hi.x+x≤7
 y:0≤b.lo.y+y∧b.hi.y+y≤7
 z:0≤b.lo.z+z∧b.hi.z+z≤7
theorem Rng.all{s:List Nat}{x y z:Int}(r:Rng (bD s).1 x y z){c:Ce}(h:dY s c=true):inG (shC x y z c)=true:=by
 obtain⟨h1,h2,h3⟩:=lE h
 obtain⟨r1,r2,r3⟩:=r
 refine jB.2 ⟨?_,?_,?_⟩<;>(unfold shC;dsimp only;omega)
theorem Gx{s:List Nat}(hs:IsS s){x y z:Int}(r:Rng (bD s).1 x y z){m i:Nat}(hm:m<8)(hi:i<64):
 dY (j7 s (bD s).1 x y z) (dX m i)=true↔ ∃c,dY s c=true∧shC x y z c=dX m i:=by
 have hall:∀c,dY s c=true→inG (shC x y z c)=true:=fun c hc=>r.all hc
 have hbx:=fun c hc=> @lE s c hc
 obtain⟨⟨bl1,bl2,bl3⟩,⟨bh1,bh2,bh3⟩⟩:=gr s
 obtain⟨_,_,r3⟩:=r
 unfold j7
 generalize(bD s).1=b at*
 rw[fR hm hi]
 by_cases hlh:b.lo.z≤b.hi.z
 ·rw[tn hs (by omega) (by omega) m hm]
  have hcond:((b.lo.z.toNat:Int)+z≤(m:Int)∧(m:Int)<(b.lo.z.toNat:Int)+z+((b.hi.z-b.lo.z+1).toNat:Nat))↔(b.lo.z+z≤m∧(m:Int)≤b.hi.z+z):=by omega
  by_cases hq:b.lo.z+z≤m∧(m:Int)≤b.hi.z+z
  ·rw[if_pos (hcond.2 hq),Iq hi,Bool.and_eq_true,decide_eq_true_eq]
   constructor
   ·rintro⟨h1,h2⟩
    have hi':=Ir (hs.jF _) h2
    have hm':((m:Int)-z).toNat<8:=by omega
    have hc:dY s (dX ((m:Int)-z).toNat ((i:Int)-(8*y+x)).toNat)=true:=by rw[fR hm' hi'];exact h2
    refine⟨_,hc,?_⟩
    obtain⟨q1,q2,q3⟩:=jB.1 (hall _ hc)
    unfold shC dX at q1 q2 q3⊢
    dsimp only at q1 q2 q3⊢
    congr 1<;>omega
   ·rintro⟨c,hc,e⟩
    obtain⟨m',i',hm',hi',rfl⟩:=hM (GQ hc)
    rw[fR hm' hi']at hc
    unfold shC dX at e
    injection e with e1 e2 e3
    dsimp only at e1 e2 e3
    have e4:((m:Int)-z).toNat=m':=by omega
    have e5:((i:Int)-(8*y+x)).toNat=i':=by omega
    rw[e4,e5]
    exact⟨by omega,hc⟩
  ·rw[if_neg (fun q=>hq (hcond.1 q)),Nat.zero_testBit]
   constructor
   ·intro h;cases h
   ·rintro⟨c,hc,e⟩
    obtain⟨_,_,h3⟩:=hbx c hc
    unfold shC dX at e
    injection e with e1 e2 e3
    exact absurd ⟨by omega,by omega⟩ hq
 ·have hno:∀c,¬dY s c=true:=fun c hc=>by have:=(hbx c hc).2.2;omega
  rw[show(b.hi.z-b.lo.z+1).toNat=0 by omega]
  constructor
  ·intro h
   unfold jJ at h
   have:∀z:Fin 8,s0.getD z.val 0=0:=by decide
   rw[this ⟨m,hm⟩,Nat.zero_testBit]at h;cases h
  ·rintro⟨c,hc,_⟩;exact absurd hc (hno c)
theorem kL{s:List Nat}{x y z:Int}(r:Rng (bD s).1 x y z):IsS (fZ (shC x y z) s):=oN fun c hc=>r.all (dB.1 hc)
theorem B6{s:List Nat}(hs:IsS s){x y z:Int}(r:Rng (bD s).1 x y z):j7 s (bD s).1 x y z=fZ (shC x y z) s:=by
 refine sU (l9 hs _ _ _ _) (kL r) fun m i hm hi=> ?_
 have e1:=Gx hs r hm hi
 have e2:=iG (f:=shC x y z) (s:=s) (fun c hc=>r.all (dB.1 hc)) (dX m i)
 cases h1:dY (j7 s (bD s).1 x y z) (dX m i)with
 |true=>rw[e2.2 (e1.1 h1)]
 |false=>
  cases h2:dY (fZ (shC x y z) s) (dX m i)with
  |false=>rfl
  |true=>rw[e1.2 (e2.1 h2)]at h1;cases h1
theorem wh{lo hi z:Int}:z∈zr lo hi↔lo≤z∧z≤hi:=by
 constructor
 ·intro h
  obtain⟨n,hn,rfl⟩:=List.mem_map.1 h
  have:=List.mem_range.1 hn
  omega
 ·rintro⟨h1,h2⟩
  exact xY (n:=(z-lo).toNat) (by omega) h2
end Go.A.Pk
end
section
set_option maxRecDepth 100000
namespace Go.A.Pk
variable {T:Nat→Option ah}
structure KP (T:Nat→Option ah):Prop where
 tr:wZ T
 f51:T 51=some f51
 f52:T 52=some f52
 f84:T 84=some f84
 f138:T 138=some f138
 f140:T 140=some f140
 f225:T 225=some f225
theorem AF{a:Int}(h:0≤a∧a≤7):qR .neg (.int .i64 a)=some (.int .i64 (-a)):=by
 simp only[qR,Int.zero_sub]
 rw[bT (by omega) (by omega)]
theorem HB{α:Type}{l:List α}{x:α}{p:α→Bool}(h:l.any p=false)(hx:p x=false):(l++[x]).any p=false:=by
 rw[List.any_append,h];simp[hx]
def ssL(l:List (List Nat)):List Value:=l.flatMap us
structure SsQ (h:Heap) (v:Value) (l:List (List Nat)):Prop where
 sl:ef h 8 v l.length (ssL l)
 ok:∀s∈l,IsS s
theorem SsQ.ext{h h':Heap}{v:Value}{l:List (List Nat)}(s:SsQ h v l)(x:Ext h h'):SsQ h' v l:=⟨s.sl.ext x,s.ok⟩
theorem SsQ.log{h:Heap}{v:Value}{l:List (List Nat)}(s:SsQ h v l)(m:List Nat):SsQ {h with log:=m} v l:=⟨s.sl.log m,s.ok⟩
theorem Cn:∀{l:List (List Nat)} {i:Nat} {x:List Nat},(∀s∈l,IsS s)→l[i]? =some x→((ssL l).drop (i*8)).take 8=us x
 |[],i,x,_,h=>by simp at h
 |c::l,0,x,hl,h=>by
  simp at h;subst h
  have e:ssL (c::l)=us c++ssL l:=rfl
  have e8:(us c).length=8:=by rw[aH,(hl c List.mem_cons_self).len]
  rw[e,Nat.zero_mul,List.drop_zero,List.take_append_of_le_length (by omega),List.take_of_length_le (by omega)]
 |c::l,i+1,x,hl,h=>by
  have e:ssL (c::l)=us c++ssL l:=rfl
  have e8:(us c).length=8:=by rw[aH,(hl c List.mem_cons_self).len]
  have e2:(us c++ssL l).drop 8=ssL l:=by rw[←e8];exact List.drop_left
  rw[e,show(i+1)*8=8+i*8 by omega,←List.drop_drop,e2]
  exact Cn (fun s hs=>hl s (List.mem_cons_of_mem _ hs)) (by simpa using h)
theorem SsQ.elem{h:Heap}{v:Value}{l:List (List Nat)}(s:SsQ h v l){i:Nat}{x:List Nat}(hi:l[i]? =some x):
 ∃b o c vs own t,v= .slice (some ⟨b,o,none⟩) l.length c∧h.get b=some (.cells vs own t)∧b<h.next∧bV 8 (bE (o+i*8) vs)=us x:=by
 have hlt:=(List.getElem?_eq_some_iff.1 hi).1
 rcases ef.inv s.sl with⟨_,_,h0,_⟩|⟨b,o,cap,hv,s1,hc⟩
 ·omega
 ·obtain⟨vs,own,t,g1,g2⟩:=s1.obj
  refine⟨b,o,cap,vs,own,t,hv,g1,s1.lt,?_⟩
  rw[←Cn s.ok hi,←g2]
  simp only[dh,cg,List.drop_take,List.take_take,List.drop_drop]
  congr 1;omega
def MX(l:List (List Nat)):Int:=if 6<l.length then 2 else if l.any (fun s=>decide (s=s0))then 1 else 0
theorem HN(hp:bg T)(hf:T 93=some f93){h:Heap}(hr:Rdy h){a:Option Addr}{n c:Nat}{l:List (List Nat)}(s:SsQ h (.slice a n c) l)(hn:n<1000000):Pu T 93 [.slice a n c] h (.int .i64 (MX l)):=by
 refine .of hp hf hr rfl ?_
 obtain rfl:n=l.length:=by
  rcases ef.inv s.sl with⟨_,hv,h0,_⟩|⟨b,o,cap,hv,s1,hc⟩
  ·cases hv;exact h0.symm
  ·cases hv;rfl
 unfold MX
 by_cases h6:6<l.length
 ·rw[if_pos h6]
  have m1:aq .gtr (.int .i64 (l.length:Nat)) (.int .i64 6)=some (.bool true):=jj (by omega)
  refine y4 ?_;refine yM ?_;refine y3 ?_;refine af ?_;refine y4 ?_;refine yM ?_;refine yD ?_
  refine yW ?_;refine y3 ?_;refine yY ?_;refine y4 ?_;refine yM ?_;refine y3 ?_;refine aJ ?_;refine eC ?_
  exact aF hr.log rfl rfl
 rw[if_neg h6]
 have m1:aq .gtr (.int .i64 (l.length:Nat)) (.int .i64 6)=some (.bool false):=jA (by omega)
 refine y4 ?_;refine yM ?_;refine y3 ?_;refine af ?_;refine y4 ?_;refine yM ?_;refine yD ?_
 refine yW ?_;refine y3 ?_;refine yX ?_;refine aB ?_;refine aN ?_;refine af ?_;refine y4 ?_;refine yM ?_
 refine y3 ?_;refine au ?_
 refine cG (fun m e ds h'=>∃j:Nat,j≤l.length∧l.length-j=m∧e=[(0, .slice a l.length c),(3, .int .i64 (j:Nat))]∧ds=[]∧h=h'∧(l.take j).any (fun s=>decide (s=s0))=false)
  ⟨0,Nat.zero_le _,rfl,rfl,rfl,rfl,rfl⟩ ?_
 rintro m e ds h' ⟨j,hj,rfl,rfl,rfl,rfl,hno⟩
 by_cases hlt:j<l.length
 ·obtain⟨x,hx⟩:∃x,l[j]? =some x:=⟨l[j]'hlt,List.getElem?_eq_getElem _⟩
  have hxs:=s.ok x (List.mem_of_getElem? hx)
  obtain⟨b,o,c2,vs,own,tt,hv,gl,hbl,el⟩:=s.elem hx
  cases hv
  have k8:=aP hxs.len
  have mlt:aq .lss (.int .i64 (j:Nat)) (.int .i64 (l.length:Nat))=some (.bool true):=fm (by omega)
  by_cases h0:x=s0
  ·have e:l.any (fun s=>decide (s=s0))=true:=List.any_eq_true.2 ⟨x,List.mem_of_getElem? hx,decide_eq_true h0⟩
   rw[if_pos e]
   refine af ?_;refine y4 ?_;refine yM ?_;refine yM ?_;refine yD ?_;refine yW ?_;refine y3 ?_
   refine yY ?_;refine aB ?_;refine aN ?_;refine af ?_;refine au ?_;refine y4 ?_;refine yM ?_;refine yM ?_;refine yI ?_;refine yV ?_
   refine ak (cZ (by exact rfl)) ?_
   refine ak (iZ (b:=s0) (by exact rfl) (by exact rfl) hxs.len rfl) ?_
   rw[decide_eq_true h0]
   refine y3 ?_;refine yY ?_;refine y4 ?_;refine yM ?_;refine y3 ?_;refine aJ ?_
   refine jT ?_;refine eC ?_;refine eC ?_;refine jT ?_;refine eC ?_
   exact aF hr.log rfl rfl
  ·refine af ?_;refine y4 ?_;refine yM ?_;refine yM ?_;refine yD ?_;refine yW ?_;refine y3 ?_
   refine yY ?_;refine aB ?_;refine aN ?_;refine af ?_;refine au ?_;refine y4 ?_;refine yM ?_;refine yM ?_;refine yI ?_;refine yV ?_
   refine ak (cZ (by exact rfl)) ?_
   refine ak (iZ (b:=s0) (by exact rfl) (by exact rfl) hxs.len rfl) ?_
   rw[decide_eq_false h0]
   refine y3 ?_;refine yX ?_;refine aB ?_;refine eD ?_;refine aN ?_;refine aA ?_;refine yM ?_;refine fE ?_
   refine yM ?_;refine y3 ?_
   refine⟨l.length-(j+1),by omega,j+1,by omega,rfl,rfl,rfl,rfl,?_⟩
   rw[fS hx];exact HB hno (decide_eq_false h0)
 ·obtain rfl:j=l.length:=by omega
  rw[List.take_length]at hno
  rw[if_neg (by rw[hno];simp)]
  have mlt:aq .lss (.int .i64 (l.length:Nat)) (.int .i64 (l.length:Nat))=some (.bool false):=fF (by omega)
  refine af ?_;refine y4 ?_;refine yM ?_;refine yM ?_;refine yD ?_;refine yW ?_;refine y3 ?_
  refine yX ?_;refine cA ?_;refine dy ?_;refine dy ?_;refine fV ?_;refine aN ?_;refine y4 ?_;refine yM ?_;refine y3 ?_;refine aJ ?_
  exact aF hr.log rfl rfl
theorem oK{h:Heap}{e:Env}{x:Operand}{s:List Nat}(hs:IsS s)(hx:ev h e x=some (sv s)):jL h e (eN 1 (aM 8 (.int .u64 0))) [(0,8,x)]=some (us s):=by
 have e1:cellsOf (sv s)=us s:=by show(us s).toArray.toList=_;simp
 have h0:eN 1 (aM 8 (.int .u64 0))=us s0:=rfl
 have e2:cU (us s0) 0 (us s)=us s:=by
  rw[jt (by rw[aH,aH,hs.len];decide),aH,hs.len,List.take_zero]
  simp[us,s0]
 have e3:bR (us s)=8:=by rw[ct,aH,hs.len]
 rw[h0]
 simp only[jL,hx,e1,e2,e3];rfl
structure Kp (T:Nat→Option ah):Prop where
 rf:KP T
 f31:T 31=some f31
 f49:T 49=some f49
 f93:T 93=some f93
theorem LW(F:Kp T){h:Heap}(hr:Rdy h){w:List Nat×List Nat}(hw:IsW w):Pu T 31 [wV w] h (.int .i64 (if sIn w.1 w.2 then 0 else 1)):=by
 have hp:=F.rf.tr.cr.hr.p
 refine .of hp F.f31 hr rfl ?_
 have hwc:cellsOf (wV w)=wL w:=by show(wL w).toArray.toList=_;simp
 have g0:(h.push (.cells (cellsOf (wV w)) true 1)).get h.next=some (.cells (wL w) true 1):=by rw[hwc];exact z3 h _
 have W:WF (h.push (.cells (cellsOf (wV w)) true 1)):=hr.wf.push _
 have hL:(h.push (.cells (cellsOf (wV w)) true 1)).log=[]:=hr.log
 refine y4 ?_;refine yB ?_;refine yM ?_;refine y3 ?_
 generalize(h.push (.cells (cellsOf (wV w)) true 1))=H at*
 have C:=Fl hp F.rf.f52 F.rf.f140 (h:={H with log:=[]}) (.of W) hw.a hw.b
 have wa:=DF hw
 have wb:=AV hw
 have wka:=aP hw.a.len
 have wkb:=aP hw.b.len
 cases hin:sIn w.1 w.2 with
 |true=>
  rw[hin]at C
  rw[if_pos rfl]
  refine af ?_;refine y4 ?_;refine yF ?_;refine yV ?_;refine yF ?_;refine yV ?_
  refine yC ?_
  refine FW.pu C ?_
  refine yA ?_;refine y3 ?_;refine yX ?_;refine aB ?_;refine aN ?_;refine y4 ?_;refine yM ?_;refine y3 ?_;refine aJ ?_
  exact aF hL rfl rfl
 |false=>
  rw[hin]at C
  rw[if_neg (by simp)]
  refine af ?_;refine y4 ?_;refine yF ?_;refine yV ?_;refine yF ?_;refine yV ?_
  refine yC ?_
  refine FW.pu C ?_
  refine yA ?_;refine y3 ?_;refine yY ?_;refine y4 ?_;refine yM ?_;refine y3 ?_;refine aJ ?_;refine eC ?_
  exact aF hL rfl rfl
end Go.A.Pk
end
section
namespace Go.A
open Go.Sort
variable {P:Program}
theorem KH{μ:Mu}{h:Heap}:∀(l:List Obj) {w:World},R P μ h w→R P μ h (Sort.grow w l.toArray)∧St μ h w μ h (Sort.grow w l.toArray)
 |[],w,hR=>by
  have e:Sort.grow w #[]=w:=grow_empty w
  rw[e];exact⟨hR, .refl _ _ _⟩
 |o::l,w,hR=>by
  have e:Sort.grow w (o::l).toArray=Sort.grow (w.alloc o) l.toArray:=by
   rw[alloc_eq_grow,grow_grow]
   congr 1
   apply Array.toList_inj.1
   simp
  rw[e]
  obtain⟨r1,s1⟩:=hR.Df (w':=w.alloc o) rfl
  obtain⟨r2,s2⟩:=KH l r1
  exact⟨r2,s1.trans s2 (Nat.le_refl _)⟩
end Go.A
end
section
namespace Go.A.Pk
open Go.Sort
variable {P:Program}
def leS(x y:List Nat):Bool:= !decide (cmpL y x<0)
def eG(l:List (List Nat)):List (List Nat):=l.mergeSort leS
theorem jy(l:List (List Nat)):(eG l).length=l.length:=List.length_mergeSort l
theorem fW{l:List (List Nat)}{x:List Nat}:x∈eG l↔x∈l:=List.mem_mergeSort
theorem eS:∀{l:List (List Nat)},(∀s∈l,IsS s)→(ssL l).length=l.length*8
 |[],_=>rfl
 |s::l,h=>by
  have e:ssL (s::l)=us s++ssL l:=rfl
  rw[e,List.length_append,aH,(h s List.mem_cons_self).len,eS (fun x hx=>h x (List.mem_cons_of_mem _ hx)),List.length_cons];omega
theorem BX{l:List (List Nat)}{v:Value}(h:v∈ssL l):∃m:Nat,v= .int .u64 (m:Nat):=by
 obtain⟨s,_,h⟩:=List.mem_flatMap.1 h
 obtain⟨m,_,rfl⟩:=List.mem_map.1 h
 exact⟨m,rfl⟩
def Dn(k1 k2:Nat):Value→Bool
 | .func (.func k) a b=>(Nat.beq k k1||Nat.beq k k2)&&(Nat.beq (bR a.toList) 0&&Nat.beq (bR b.toList) 0)
 |_=>false
theorem Cc{k1 k2:Nat}{v:Value}(h:Dn k1 k2 v=true):∃k,(k=k1∨k=k2)∧v= .func (.func k) #[] #[]:=by
 unfold Dn at h
 split at h
 ·rename_i k a b
  rw[Bool.and_eq_true,Bool.and_eq_true,Bool.or_eq_true,beq_eq,beq_eq,beq_eq,beq_eq,decide_eq_true_eq,decide_eq_true_eq,decide_eq_true_eq,decide_eq_true_eq,ct,ct]at h
  obtain⟨h1,h2,h3⟩:=h
  have ea:a= #[]:=by cases a;simpa using h2
  have eb:b= #[]:=by cases b;simpa using h3
  subst ea;subst eb
  exact⟨k,h1,rfl⟩
 ·cases h
def vO:Nat→List Value→Option (List (List Nat))
 |0,_=>some []
 |n+1,vs=>match mO (bV 8 vs)with
  |some p=>bif Nat.beq (bR p) 8 then(match vO n (bE 8 vs)with
   |some r=>some (p::r)
   |none=>none)else none
  |none=>none
theorem zj:∀{n:Nat} {vs:List Value} {l:List (List Nat)},vO n vs=some l→l.length=n∧(∀s∈l,IsS s)∧vs=ssL l++bE (n*8) vs
 |0,vs,l,h=>by
  cases h
  refine⟨rfl,(fun s hs=>by cases hs),?_⟩
  rw[cg,Nat.zero_mul,List.drop_zero];rfl
 |n+1,vs,l,h=>by
  unfold vO at h
  split at h
  ·rename_i p hp
   rw[cond_eq_ite,beq_eq,ct,Option.ite_none_right_eq_some,decide_eq_true_eq]at h
   obtain⟨hl,h⟩:=h
   split at h
   ·rename_i r hr
    cases h
    obtain⟨e1,e2,e3⟩:=zj hr
    obtain⟨p1,p2⟩:=pF hp
    refine⟨by rw[List.length_cons,e1],fun s hs=> ?_,?_⟩
    ·rcases List.mem_cons.1 hs with rfl|hs
     ·exact⟨hl,p2⟩
     ·exact e2 s hs
    ·have e:ssL (p::r)=us p++ssL r:=rfl
     rw[dh]at p1
     rw[cg,cg]at e3
     rw[cg,e,←p1,List.append_assoc]
     have e4:vs.drop ((n+1)*8)=(vs.drop 8).drop (n*8):=by rw[List.drop_drop];congr 1;omega
     rw[e4,←e3,List.take_append_drop]
   ·cases h
  ·cases h
theorem Ac:∀{l:List (List Nat)} {t:List Value},(∀s∈l,IsS s)→vO l.length (ssL l++t)=some l
 |[],t,_=>rfl
 |s::l,t,h=>by
  have hs:=h s List.mem_cons_self
  have e:ssL (s::l)++t=us s++(ssL l++t):=by show us s++ssL l++t=_;rw[List.append_assoc]
  have e8:(us s).length=8:=by rw[aH,hs.len]
  have e1:bV 8 (us s++(ssL l++t))=us s:=by rw[dh,←e8,List.take_left]
  have e2:bE 8 (us s++(ssL l++t))=ssL l++t:=by rw[cg,←e8,List.drop_left]
  have e3:Nat.beq (bR s) 8=true:=by rw[ct,hs.len];rfl
  rw[e,List.length_cons,vO,e1,ud hs.lt]
  dsimp only
  rw[e3,cond_true,e2,Ac fun y hy=>h y (List.mem_cons_of_mem _ hy)]
def nj(k1 k2:Nat):List Value→Heap→Option (Value×Heap)
 |[.slice none 0 _,f],h=>bif Dn k1 k2 f then some (.tuple #[],h)else none
 |[.slice (some ⟨b,o,none⟩) n _,f],h=>bif Dn k1 k2 f&&(Nat.beq o 0&&Nat.blt n 1000000)then(match h.get b with
  |some (.cells vs true sz)=>match vO n vs with
   |some l=>some (.tuple #[],h.wr h.next b (.cells (ssL (eG l)++bE (n*8) vs) true sz))
   |none=>none
  |_=>none)else none
 |_,_=>none
theorem NV{μ:Mu}{k:Nat}{v:Value}(h:VR μ (.func (.func k) #[] #[]) v):v= .func (.func k) #[] #[]:=by
 cases h with
 |func hf h1 h2 h3 h4=>
  rename_i f' a' c'
  cases hf
  have ea:a'= #[]:=by cases a';simpa using h1.symm
  have ec:c'= #[]:=by cases c';simpa using h3.symm
  rw[ea,ec]
theorem DG{f k1 k2:Nat}{fn:Func}(hf:P.funcs[f]? =some fn)(hn:fn.name≠ "runtime.NumGoroutine")(hb:fn.body.isSome=true)
 (h0:∀(k:Nat) (p:Option Addr) (cap:Nat) (w:World),Calls P f #[.slice p 0 cap, .func (.func k) #[] #[]] w fun e w'=>e= .returned (.tuple #[])∧w'=w)
 (h1:∀(k:Nat),k=k1∨k=k2→∀(blk off cap:Nat) (l:List (List Nat)) (w:World),(∀s∈l,IsS s)→Holds id w blk off (ssL l).toArray→blk<w.heap.size→l.length<4611686018427387904→
   Calls P f #[.slice (some ⟨blk,off,none⟩) l.length cap, .func (.func k) #[] #[]] w fun e w'=>e= .returned (.tuple #[])∧∃n os,w'=Sort.grow (putRow id (Sort.ahead w n) blk off (ssL (eG l)).toArray) os):xR P f (nj k1 k2):=by
 intro args h v h' hp _
 unfold nj at hp
 split at hp
 ·rename_i c g
  rw[cond_eq_ite,Option.ite_none_right_eq_some]at hp
  obtain⟨hg,hp⟩:=hp
  cases hp
  obtain⟨k,hk,rfl⟩:=Cc hg
  refine⟨.refl _ _,fun μ w args' hR ha=> ?_⟩
  obtain⟨x',y',rfl,hx,hy⟩:=ha.two
  obtain rfl:=NV hy
  cases hx
  exact jI hf hn hb (h0 _ _ _ w) fun e w' ⟨q1,q2⟩=>by subst q1;subst q2;exact⟨μ, .tuple rfl (fun i hi=>absurd hi (by simp)),hR, .refl _ _ _⟩
 ·rename_i b o n c g
  rw[cond_eq_ite,Option.ite_none_right_eq_some,Bool.and_eq_true,Bool.and_eq_true,beq_eq,blt_eq,decide_eq_true_eq,decide_eq_true_eq]at hp
  obtain⟨⟨hg,rfl,hlt⟩,hp⟩:=hp
  obtain⟨kf,hkf,rfl⟩:=Cc hg
  split at hp
  ·rename_i vs sz hbo
   split at hp
   ·rename_i l hxs
    cases hp
    obtain⟨hln,hok,hvs⟩:=zj hxs
    have hsl:(ssL l).length=n*8:=by rw[eS hok,hln]
    have hok2:∀s∈eG l,IsS s:=fun s hs=>hok s (fW.1 hs)
    have hsl2:(ssL (eG l)).length=n*8:=by rw[eS hok2,jy,hln]
    have hdl:(bE (n*8) vs).length=vs.length-n*8:=by rw[cg,List.length_drop]
    have hvl:n*8≤vs.length:=by
     have:=congrArg List.length hvs
     rw[List.length_append,hsl]at this;omega
    have hnl:(ssL (eG l)++bE (n*8) vs).length=vs.length:=by rw[List.length_append,hsl2,hdl];omega
    refine⟨AS.wr _ _ _ _,fun μ w args' hR ha=> ?_⟩
    obtain⟨x',y',rfl,hx,hy⟩:=ha.two
    obtain rfl:=NV hy
    have key:∀k c',μ b=some k→mZ P (gJ P μ h w (.ret (.tuple #[])) (h.wr h.next b (.cells (ssL (eG l)++bE (n*8) vs) true sz))) ((callFunc f #[.slice (some ⟨k.r,k.d+0,none⟩) n c', .func (.func kf) #[] #[]]).run P w):=fun k c' hk=>by
     obtain⟨hsz,cc,el,fz,g1,g2,g3,g4,g5⟩:=hR.obj b _ hbo k hk
     obtain⟨hd,he,hfz⟩:=g5 rfl
     have gvL:∀(l2:List Value) j,(hj:j<l2.length)→gv l2 j=l2[j]:=fun l2 j hj=>by simp[gv,cV,hj]
     have hat:∀j,(hj:j<(ssL l).length)→cc[k.d+j]? =some (ssL l)[j]:=fun j hj=>by
      obtain⟨v',p1,p2⟩:=g4 j (by omega)
      have e:gv vs j=(ssL l)[j]:=by
       rw[gvL vs j (by omega)]
       have:vs[j]? =(ssL l)[j]? :=by
        conv=>lhs;rw[hvs]
        rw[List.getElem?_append_left hj]
       rw[List.getElem?_eq_getElem (by omega),List.getElem?_eq_getElem hj,Option.some.injEq]at this
       exact this
      rw[e]at p2
      obtain⟨m,hm⟩:=BX (List.getElem_mem hj)
      rw[hm]at p2⊢
      cases p2;exact p1
     have hH:Holds id w k.r (k.d+0) (ssL l).toArray:=fun j hj=>by
      have hj:j<(ssL l).length:=by simpa using hj
      refine⟨?_,?_⟩
      ·rw[cell_of g1,Nat.add_zero,hat j hj];simp[hj]
      ·have:=hfz (k.d+0+j) (by omega)
       simp only[World.frozen?,g1]
       simpa using this
     have hcall:=h1 kf hkf k.r (k.d+0) c' l w hok hH (hR.dom _ _ hk).2 (by omega)
     rw[hln]at hcall
     refine jI hf hn hb hcall fun e w' ⟨q1,m,os,q2⟩=> ?_
     subst q1;subst q2
     obtain⟨r1,s1⟩:=hR.world (w':=Sort.ahead w m) rfl
     have hg:(putRow id (Sort.ahead w m) k.r (k.d+0) (ssL (eG l)).toArray).heap=w.heap.modify k.r (onCells (putCells id (k.d+0) (ssL (eG l)).toArray)):=rfl
     have g1':(putRow id (Sort.ahead w m) k.r (k.d+0) (ssL (eG l)).toArray).heap[k.r]? =some (.cells (putCells id (k.d+0) (ssL (eG l)).toArray cc) el fz):=by
      rw[hg,Array.getElem?_modify,if_pos rfl,g1];rfl
     have hps:(putCells id (k.d+0) (ssL (eG l)).toArray cc).size=cc.size:=by simp[putCells]
     obtain⟨r2,s2⟩:=r1.write (base:=h.next) (b:=b) (o:= .cells vs true sz) (o':= .cells (ssL (eG l)++bE (n*8) vs) true sz) (k:=k) (w':=putRow id (Sort.ahead w m) k.r (k.d+0) (ssL (eG l)).toArray) hbo rfl rfl hk
      (by rw[hg];simp[Sort.ahead]) (fun r hr=>by rw[hg,Array.getElem?_modify,if_neg (Ne.symm hr)];rfl) (.uL g1 g1' (by omega)) (by
        intro k' hk'
        rw[hk]at hk';cases hk'
        refine⟨hsz,_,el,fz,g1',by omega,by omega,fun i hi=> ?_,fun _=>⟨hd,by omega,fun j hj=>hfz j (by omega)⟩⟩
        obtain⟨v',p1,p2⟩:=g4 i (by omega)
        have hgv:gv (ssL (eG l)++bE (n*8) vs) i=(ssL (eG l)++bE (n*8) vs)[i]:=gvL _ i hi
        rw[hgv]
        by_cases hi8:i<n*8
        ·rw[List.getElem_append_left (by omega)]
         obtain⟨q,hq⟩:=BX (List.getElem_mem (show i<(ssL (eG l)).length by omega))
         refine⟨(ssL (eG l))[i],?_,by rw[hq];exact .int _ _⟩
         simp only[putCells,Array.getElem?_mapIdx,p1,z7]
         rw[if_pos ⟨by omega,by simp;omega⟩]
         have:i<(ssL (eG l)).length:=by omega
         simp[this]
        ·refine⟨v',?_,?_⟩
         ·simp only[putCells,Array.getElem?_mapIdx,p1,z7]
          rw[if_neg (fun q=>by simp at q;omega)]
         ·have e:(ssL (eG l)++bE (n*8) vs)[i]? =vs[i]? :=by
           rw[List.getElem?_append_right (by omega),hsl2,cg,List.getElem?_drop]
           congr 1;omega
          rw[List.getElem?_eq_getElem hi,List.getElem?_eq_getElem (by omega),Option.some.injEq]at e
          rw[e,←gvL vs i (by omega)];exact p2)
     obtain⟨r3,s3⟩:=KH os.toList r2
     have e3:Sort.grow (putRow id (Sort.ahead w m) k.r (k.d+0) (ssL (eG l)).toArray) os.toList.toArray=Sort.grow (putRow id (Sort.ahead w m) k.r (k.d+0) (ssL (eG l)).toArray) os:=rfl
     rw[e3]at r3 s3
     exact⟨μ, .tuple rfl (fun i hi=>absurd hi (by simp)),r3,(s1.trans s2 (Nat.le_refl _)).trans s3 (Nat.le_refl _)⟩
    cases hx with
    |slice hk q1 q2=>exact key _ _ hk
    |eE hk q1 q2 q3=>exact key _ _ hk
   ·cases hp
  ·cases hp
 ·cases hp
end Go.A.Pk
end
section
set_option maxRecDepth 100000
namespace Go.A.Pk
variable {T:Nat→Option ah}
theorem SsQ.len{h:Heap}{a:Option Addr}{n c:Nat}{l:List (List Nat)}(s:SsQ h (.slice a n c) l):n=l.length:=by
 rcases ef.inv s.sl with⟨_,hv,h0,_⟩|⟨b,o,cap,hv,s1,hc⟩
 ·cases hv;exact h0.symm
 ·cases hv;rfl
def iS(P:List Nat→Bool):List (List Nat)→Nat→Int
 |[],_=> -1
 |r::l,i=>if P r then(i:Int)else iS P l (i+1)
theorem Cy(P:List Nat→Bool){l:List (List Nat)}{i:Nat}{r:List Nat}(hi:l[i]? =some r):iS P (l.drop i) i=if P r then(i:Int)else iS P (l.drop (i+1)) (i+1):=by
 obtain⟨hlt,rfl⟩:=List.getElem?_eq_some_iff.1 hi
 rw[List.drop_eq_getElem_cons hlt,iS]
theorem Gz(P:List Nat→Bool)(l:List (List Nat)):iS P (l.drop l.length) l.length= -1:=by rw[List.drop_length];rfl
theorem Am(P:List Nat→Bool):∀(l:List (List Nat)) (i:Nat),decide (0≤iS P l i)=l.any P
 |[],i=>rfl
 |r::l,i=>by
  rw[iS,List.any_cons]
  by_cases h:P r=true
  ·rw[if_pos h,h,decide_eq_true (by omega)];rfl
  ·rw[if_neg h,Am P l (i+1)]
   rw[Bool.not_eq_true]at h
   rw[h,Bool.false_or]
theorem zn(P:List Nat→Bool):∀(l:List (List Nat)) (i:Nat),0≤iS P l i→∃k r,l[k]? =some r∧P r=true∧iS P l i=((i+k:Nat):Int)∧∀x∈l.take k,P x=false
 |[],i,h=>by simp[iS]at h
 |r::l,i,h=>by
  rw[iS]at h⊢
  by_cases hp:P r=true
  ·exact⟨0,r,rfl,hp,by rw[if_pos hp];rfl,fun x hx=>by simp at hx⟩
  ·rw[if_neg hp]at h⊢
   obtain⟨k,q,h1,h2,h3,h4⟩:=zn P l (i+1) h
   refine⟨k+1,q,by simpa using h1,h2,by rw[h3];congr 1;omega,fun x hx=> ?_⟩
   rw[List.take_succ_cons]at hx
   rcases List.mem_cons.1 hx with rfl|hx
   ·simpa using hp
   ·exact h4 x hx
theorem y6(P:List Nat→Bool):∀(l:List (List Nat)) (i:Nat),¬0≤iS P l i→iS P l i= -1∧∀x∈l,P x=false
 |[],i,h=>⟨rfl,fun x hx=>by simp at hx⟩
 |r::l,i,h=>by
  rw[iS]at h⊢
  by_cases hp:P r=true
  ·rw[if_pos hp]at h;omega
  ·rw[if_neg hp]at h⊢
   obtain⟨h1,h2⟩:=y6 P l (i+1) h
   refine⟨h1,fun x hx=> ?_⟩
   rcases List.mem_cons.1 hx with rfl|hx
   ·simpa using hp
   ·exact h2 x hx
set_option maxHeartbeats 1000000 in
theorem zN(hp:bg T)(hf:T 257=some f257){h:Heap}(hr:Rdy h){a:Option Addr}{n c:Nat}{l:List (List Nat)}(s:SsQ h (.slice a n c) l)(hn:n<1000000){g:Nat}{cap:List Value}(P:List Nat→Bool)
 (HP:∀r∈l,Pu T g (sv r::cap) h (.bool (P r))):Pu T 257 [.slice a n c, .func (.func g) #[] cap.toArray] h (.int .i64 (iS P l 0)):=by
 refine .of hp hf hr rfl ?_
 obtain rfl:=s.len
 refine y4 ?_;refine yM ?_;refine y3 ?_;refine af ?_;refine y4 ?_;refine yM ?_;refine yD ?_;refine yM ?_
 refine y3 ?_;refine au ?_
 refine cG (fun m e ds h'=>∃i:Nat,i≤l.length∧m=l.length-i∧e=[(0, .slice a l.length c),(1, .func (.func g) #[] cap.toArray),(7, .int .i64 (l.length:Nat)),(8, .int .i64 (i:Nat))]∧ds=[]∧h=h'∧iS P l 0=iS P (l.drop i) i)
  ⟨0,Nat.zero_le _,rfl,rfl,rfl,rfl,rfl⟩ ?_
 rintro m e ds _ ⟨i,hin,rfl,rfl,rfl,rfl,hi⟩
 by_cases hlt:i<l.length
 ·obtain⟨r,hri⟩:∃r,l[i]? =some r:=⟨l[i],List.getElem?_eq_getElem hlt⟩
  obtain⟨b,o,c2,vs,own,t,hv,g1,hb,k1⟩:=s.elem hri
  cases hv
  have k2:=aP (s.ok r (List.mem_of_getElem? hri)).len
  have H:=HP r (List.mem_of_getElem? hri)
  rw[Cy P hri]at hi
  refine y4 ?_;refine yt ?_;refine y3 ?_;refine af ?_;refine yY ?_;refine aB ?_;refine aN ?_;refine af ?_;refine au ?_;refine y4 ?_;refine yM ?_;refine yM ?_;refine y3 ?_;refine y4 ?_;refine yM ?_;refine yM ?_;refine yM ?_
  refine yI ?_;refine yV ?_
  refine qU (wX (all:=sv r::cap) (by exact rfl) (by exact rfl) (by exact rfl) (by rw[dL,dL];simp[sv])) ?_
  refine FW.pu (by rw[hr.self];exact H) ?_
  clear H HP
  cases hpr:P r with
  |true=>
   rw[hpr,if_pos rfl]at hi
   rw[hi]
   refine y3 ?_;refine yY ?_;refine y4 ?_;refine yM ?_;refine yM ?_;refine y3 ?_;refine aJ ?_;refine jT ?_;refine eC ?_;refine eC ?_;refine jT ?_;refine eC ?_
   exact aF hr.log rfl rfl
  |false=>
   rw[hpr,if_neg (by simp)]at hi
   refine y3 ?_;refine yX ?_;refine aB ?_;refine eD ?_;refine aN ?_;refine aA ?_;refine fE ?_;refine yM ?_;refine y3 ?_
   exact⟨l.length-(i+1),by omega,i+1,by omega,rfl,rfl,rfl,rfl,hi⟩
 ·obtain rfl:i=l.length:=by omega
  rw[Gz]at hi
  rw[hi]
  refine y4 ?_;refine yf ?_;refine y3 ?_;refine af ?_;refine yX ?_;refine cA ?_;refine dy ?_;refine dy ?_;refine fV ?_;refine aN ?_
  refine y4 ?_;refine yM ?_;refine y3 ?_;refine aJ ?_
  exact aF hr.log rfl rfl
theorem Ag(hp:bg T)(hf:T 196=some f196)(hf2:T 257=some f257){h:Heap}(hr:Rdy h){a:Option Addr}{n c:Nat}{l:List (List Nat)}(s:SsQ h (.slice a n c) l)(hn:n<1000000){g:Nat}{cap:List Value}(P:List Nat→Bool)
 (HP:∀r∈l,Pu T g (sv r::cap) h (.bool (P r))):Pu T 196 [.slice a n c, .func (.func g) #[] cap.toArray] h (.bool (l.any P)):=by
 refine .of hp hf hr rfl ?_
 have C:=zN hp hf2 hr s hn P HP
 rw[←Am P l 0]
 generalize iS P l 0=z at C⊢
 refine y4 ?_;refine yM ?_;refine y3 ?_;refine y4 ?_;refine yM ?_;refine yM ?_
 refine yC ?_
 refine FW.pu (by rw[hr.self];exact C) ?_
 clear C
 have m1:aq .geq (.int .i64 z) (.int .i64 0)=some (.bool (decide (0≤z))):=Ij
 refine yW ?_;refine yM ?_;refine y3 ?_;refine aJ ?_
 exact aF hr.log rfl rfl
def OwS(lo:Nat)(h:Heap)(v:Value)(l:List (List Nat)):Prop:=
 (v= .slice none 0 0∧l=[])∨∃b c t,lo≤b∧b<h.next∧h.get b=some (.cells (ssL l++t) true 8)∧v= .slice (some ⟨b,0,none⟩) l.length c∧l.length≤c∧(l≠[]→c=UNK)
def vB(v:Value)(z:Nat):Prop:=∃m c,v= .slice (some ⟨z,0,none⟩) m c
theorem OwS.vb{lo:Nat}{h:Heap}{v:Value}{l:List (List Nat)}(q:OwS lo h v l){z:Nat}(hz:vB v z):lo≤z∧z<h.next:=by
 obtain⟨m,c,hz⟩:=hz
 rcases q with⟨rfl,_⟩|⟨b,c,t,h1,h2,h3,rfl,_⟩
 ·cases hz
 ·cases hz
  exact⟨h1,h2⟩
theorem OwS.ss{lo:Nat}{h:Heap}{v:Value}{l:List (List Nat)}(q:OwS lo h v l)(hl:∀s∈l,IsS s):SsQ h v l:=by
 refine⟨?_,hl⟩
 rcases q with⟨rfl,rfl⟩|⟨b,c,t,h1,h2,h3,rfl,h4,h5⟩
 ·exact .nil
 ·refine .mem ⟨h2,⟨_,_,_,h3,?_⟩,eS hl⟩ h4
  rw[dh,cg,List.drop_zero,List.take_append_of_le_length (by rw[eS hl];omega),List.take_of_length_le (by rw[eS hl];omega)]
theorem OwS.keep{lo:Nat}{h h':Heap}{v:Value}{l:List (List Nat)}(q:OwS lo h v l)(hn:h.next≤h'.next)(ha:∀z,lo≤z→z<h.next→h'.get z=h.get z):OwS lo h' v l:=by
 rcases q with q|⟨b,c,t,h1,h2,h3,rfl,h4,h5⟩
 ·exact .inl q
 ·exact .inr ⟨b,c,t,h1,by omega,(ha b h1 h2).trans h3,rfl,h4,h5⟩
theorem OwS.ext{lo:Nat}{h h':Heap}{v:Value}{l:List (List Nat)}(q:OwS lo h v l)(x:Ext h h'):OwS lo h' v l:=q.keep x.next fun z _ hz=>x.old z hz
theorem OwS.log{lo:Nat}{h:Heap}{v:Value}{l:List (List Nat)}(q:OwS lo h v l)(m:List Nat):OwS lo {h with log:=m} v l:=q
theorem OwS.low{lo lo':Nat}{h:Heap}{v:Value}{l:List (List Nat)}(q:OwS lo h v l)(hl:lo'≤lo):OwS lo' h v l:=by
 rcases q with q|⟨b,c,t,h1,h2⟩
 ·exact .inl q
 ·exact .inr ⟨b,c,t,by omega,h2⟩
theorem OwS.flat{lo lo':Nat}{h h':Heap}{v:Value}{l:List (List Nat)}(hv:cw v=true)(q:OwS lo h v l):OwS lo' h' v l:=by
 rcases q with q|⟨b,c,t,h1,h2,h3,rfl,_⟩
 ·exact .inl q
 ·cases hv
theorem OwS.form{lo:Nat}{h:Heap}{v:Value}{l:List (List Nat)}(q:OwS lo h v l):∃a c,v= .slice a l.length c:=by
 rcases q with⟨rfl,rfl⟩|⟨b,c,t,h1,h2,h3,rfl,_⟩
 ·exact⟨none,0,rfl⟩
 ·exact⟨_,c,rfl⟩
theorem Own.owS{lo:Nat}{h:Heap}{v:Value}{l:List (List Nat)}(q:Own lo h 8 v l.length (ssL l))(hn:l.length<4000000):OwS lo h v l:=by
 generalize hm:l.length=n at q
 generalize hc:ssL l=cs at q
 cases q with
 |nil=>exact .inl ⟨rfl,List.length_eq_zero_iff.1 hm⟩
 |full h1 h2 h3 h4 h5=>
  subst hm;subst hc
  exact .inr ⟨_,UNK,[],h1,h2,by rw[List.append_nil];exact h3,rfl,by unfold UNK;omega,fun _=>rfl⟩
theorem mQ(a b:List (List Nat)):ssL (a++b)=ssL a++ssL b:=by simp[ssL]
theorem zf(a:List Nat)(b:List (List Nat)):ssL (a::b)=us a++ssL b:=rfl
theorem sV{l:List (List Nat)}{i:Nat}(h:∀r∈l,IsS r):(ssL l).take (i*8)=ssL (l.take i):=by
 by_cases hi:i≤l.length
 ·have e:l=l.take i++l.drop i:=(List.take_append_drop i l).symm
  have hlen:(ssL (l.take i)).length=i*8:=by rw[eS fun r hr=>h r (List.mem_of_mem_take hr),List.length_take,Nat.min_eq_left hi]
  conv=>lhs;rw[e,mQ]
  rw[←hlen,List.take_left]
 ·rw[List.take_of_length_le (by rw[eS h];omega),List.take_of_length_le (by omega)]
theorem zM{l:List (List Nat)}{i:Nat}(h:∀r∈l,IsS r):(ssL l).drop (i*8)=ssL (l.drop i):=by
 by_cases hi:i≤l.length
 ·have e:l=l.take i++l.drop i:=(List.take_append_drop i l).symm
  have hlen:(ssL (l.take i)).length=i*8:=by rw[eS fun r hr=>h r (List.mem_of_mem_take hr),List.length_take,Nat.min_eq_left hi]
  conv=>lhs;rw[e,mQ]
  rw[←hlen,List.drop_left]
 ·rw[List.drop_of_length_le (by rw[eS h];omega),List.drop_of_length_le (by omega)];rfl
theorem xN{l:List (List Nat)}{t:List Value}{i:Nat}{r:List Nat}(h:∀r∈l,IsS r)(hr:IsS r)(hi:i<l.length):cU (ssL l++t) (0+i*8) (us r)=ssL (l.set i r)++t:=by
 have hl:=eS h
 have hu:(us r).length=8:=by rw[aH,hr.len]
 rw[Nat.zero_add,jt (by rw[hu,List.length_append,hl];omega),hu,List.take_append_of_le_length (by omega),List.drop_append_of_le_length (by omega),sV h,show i*8+8=(i+1)*8 by omega,zM h,List.set_eq_take_append_cons_drop,if_pos hi,mQ,zf]
 simp
theorem mV{l:List (List Nat)}{t:List Value}{i:Nat}{x:List Nat}(h:∀r∈l,IsS r)(hi:l[i]? =some x):bV 8 (bE (0+i*8) (ssL l++t))=us x:=by
 have hlt:=(List.getElem?_eq_some_iff.1 hi).1
 have hl:=eS h
 rw[dh,cg,Nat.zero_add,List.drop_append_of_le_length (by omega),List.take_append_of_le_length (by rw[List.length_drop];omega),Cn h hi]
theorem wv{l:List (List Nat)}{t:List Value}{i:Nat}{r:List Nat}(h:∀r∈l,IsS r)(hr:IsS r)(hi:i<l.length):(Nat.beq (bR (cellsOf (sv r))) 8&&Nat.ble (0+i*8+8) (bR (ssL l++t))&&eM (cellsOf (sv r)))=true:=by
 have e:cellsOf (sv r)=us r:=by show(us r).toArray.toList=_;simp
 rw[e,ct,ct,aH,hr.len,cW,List.length_append,eS h,gF (by omega)];rfl
theorem Gt(hp:bg T)(hf:T 194=some f194){h:Heap}(hr:Rdy h){v:Value}{l:List (List Nat)}(s:SsQ h v l)(hn:l.length<1000000):Al T 194 [v] h fun v h'=>OwS h.next h' v l:=by
 refine .of hp hf hr (fun v h1 hv q=>OwS.flat hv q) ?_
 rcases ef.inv s.sl with⟨c',rfl,h0,_⟩|⟨b,o,cap,rfl,s1,hc⟩
 ·have hl:l=[]:=List.length_eq_zero_iff.1 h0
  subst hl
  refine y4 ?_;refine yM ?_;refine y3 ?_;refine af ?_;refine y4 ?_;refine yM ?_;refine ak (Es (by exact rfl) (by exact rfl) (by exact rfl)) ?_;refine y3 ?_;refine yY ?_;refine y4 ?_;refine yM ?_;refine y3 ?_;refine aJ ?_;refine eC ?_
  exact dN hr.log rfl (.inl ⟨rfl,rfl⟩)
 ·have hs:=M0 (s.sl.ext ((Ext.refl h).push (.cells [] true 8)))
  by_cases h0:l.length=0
  ·have hl:l=[]:=List.length_eq_zero_iff.1 h0
   subst hl
   refine y4 ?_;refine yM ?_;refine y3 ?_;refine af ?_;refine y4 ?_;refine yM ?_;refine ak (Es (by exact rfl) (by exact rfl) (by exact rfl)) ?_;refine y3 ?_;refine yX ?_;refine aB ?_;refine aN ?_;refine y4 ?_;refine ak (iH (by exact rfl) (by exact rfl)) ?_;refine yM ?_
   refine ak (pg (by exact rfl) (by exact rfl) hs (Nat.le_refl _)) ?_
   refine yM ?_;refine y3 ?_;refine aJ ?_
   refine dN hr.log rfl (.inr ⟨h.next,_,[],Nat.le_refl _,Nat.lt_succ_self _,?_,rfl,Nat.le_refl _,fun q=>absurd rfl q⟩)
   (simp(disch:=first|omega|(simp only[z1,z2];omega))only[z3,z4,z5,z6,z7,z1,z2];exact rfl)
  ·refine y4 ?_;refine yM ?_;refine y3 ?_;refine af ?_;refine y4 ?_;refine yM ?_;refine ak (Es (by exact rfl) (by exact rfl) (by exact rfl)) ?_;refine y3 ?_;refine yX ?_;refine aB ?_;refine aN ?_;refine y4 ?_;refine ak (iH (by exact rfl) (by exact rfl)) ?_;refine yM ?_
   refine ak (pK (c:=0) (len:=0) (by exact rfl) (by exact rfl) hs h0 (by omega) (by decide) (z3 h _) (by exact Nat.le_refl _) (by omega) (by exact rfl)) ?_
   refine yM ?_;refine y3 ?_;refine aJ ?_
   refine dN hr.log rfl (.inr ⟨h.next+1,UNK,[],Nat.le_succ _,Nat.lt_succ_self _,?_,?_,by unfold UNK;omega,fun _=>rfl⟩)
   ·rw[List.append_nil];(simp(disch:=first|omega|(simp only[z1,z2];omega)|(simp only[z1,z2];done)|fail)only[z8,z4,z5,z9,z7,z1,z2];exact rfl)
   ·rw[Nat.zero_add];rfl
theorem qH{l:List (List Nat)}{i:Nat}{r:List Nat}(hi:l[i]? =some r)(Q:List Nat→Bool):(l.take (i+1)).filter Q=(l.take i).filter Q++(if Q r then [r]else []):=by
 obtain⟨hlt,rfl⟩:=List.getElem?_eq_some_iff.1 hi
 rw[List.take_succ_eq_append_getElem hlt,List.filter_append]
 congr 1
 by_cases hq:Q l[i]=true
 ·simp[hq]
 ·simp[hq]
theorem vG{l:List (List Nat)}{i:Nat}{r:List Nat}(hi:i<l.length):(l.set i r).take (i+1)=l.take i++[r]:=by
 apply List.ext_getElem?
 intro k
 by_cases hk:k<i
 ·rw[List.getElem?_take_of_lt (by omega),List.getElem?_set_ne (by omega),List.getElem?_append_left (by rw[List.length_take];omega),List.getElem?_take_of_lt hk]
 ·by_cases hk2:k=i
  ·subst hk2
   rw[List.getElem?_take_of_lt (by omega),List.getElem?_set_self hi,List.getElem?_append_right (by rw[List.length_take];omega),List.length_take,Nat.min_eq_left (by omega),Nat.sub_self];rfl
  ·rw[List.getElem?_eq_none (by rw[List.length_take,List.length_set];omega),List.getElem?_eq_none (by rw[List.length_append,List.length_take,List.length_singleton];omega)]
theorem vl{l:List (List Nat)}{i j:Nat}{r:List Nat}(hi:i<j):(l.set i r).drop j=l.drop j:=by
 apply List.ext_getElem?
 intro k
 rw[List.getElem?_drop,List.getElem?_drop,List.getElem?_set_ne (by omega)]
def zS:List Value:=aM 8 (.int .u64 0)
theorem xL:∀n,eM (eN n zS)=true
 |0=>rfl
 |n+1=>by
  show eM (dQ zS (eN n zS))=true
  rw[dL]
  exact qQ rfl (xL n)
theorem uo{l D:List (List Nat)}{t ws:List Value}{i:Nat}(hl:∀r∈l,IsS r)(hi:i≤l.length)(hD:l.take i=D)(hw:cU (ssL l++t) (0+i*8) (eN (l.length-i) zS)=ws):∃t',ws=ssL D++t':=by
 have hz:(eN (l.length-i) zS).length=(l.length-i)*8:=by rw[jN];rfl
 have hll:=eS hl
 rw[←hw,jt (by rw[hz,List.length_append,hll];omega),Nat.zero_add,List.take_append_of_le_length (by omega),sV hl,hD,List.append_assoc]
 exact⟨_,rfl⟩
set_option maxHeartbeats 4000000 in
theorem DY(hp:bg T)(hf:T 193=some f193)(hf2:T 257=some f257){h:Heap}(hr:Rdy h){lo:Nat}{l:List (List Nat)}{v:Value}(q:OwS lo h v l)(hl:∀r∈l,IsS r)(hn:l.length<1000000){g:Nat}{cap:List Value}(P:List Nat→Bool)
 (HP:∀h':Heap,WF h'→h.next≤h'.next→(∀z,z<lo→h'.get z=h.get z)→∀r,IsS r→Pu T g (sv r::cap) {h' with log:=[]} (.bool (P r))):
 Gs T 193 [v, .func (.func g) #[] cap.toArray] h (vB v) (fun v h'=>OwS lo h' v (l.filter fun r=> !P r)):=by
 have sR:=q.ss hl
 obtain⟨a,c,rfl⟩:=q.form
 refine .of hp hf ?_ ?_
 ·intro v h1 h2 hv hn2 hag hq
  exact OwS.flat hv hq
 have C:=zN hp hf2 hr sR hn P (fun r hR=>by
  have:=HP h hr.wf (Nat.le_refl _) (fun _ _=>rfl) r (hl r hR)
  rwa [hr.self]at this)
 refine y4 ?_;refine yM ?_;refine y3 ?_;refine y4 ?_;refine yM ?_;refine yM ?_
 refine yC ?_
 refine FW.pu (by rw[hr.self];exact C) ?_
 clear C
 by_cases hi:0≤iS P l 0
 ·obtain⟨k,rk,h1,h2,h3,h4⟩:=zn P l 0 hi
  rw[Nat.zero_add]at h3
  rw[h3]
  have hkl:k<l.length:=(List.getElem?_eq_some_iff.1 h1).1
  rcases q with⟨_,rfl⟩|⟨b,c',tl,hb1,hb2,hb3,hv,hcl,hcu⟩
  ·simp at hkl
  ·cases hv
   obtain rfl:=hcu (fun q=>by rw[q]at hkl;simp at hkl)
   have m1:aq .eql (.int .i64 (k:Nat)) (.int .i64 (-1))=some (.bool false):=xz (by omega)
   refine yM ?_;refine y3 ?_;refine af ?_;refine y4 ?_;refine yM ?_;refine yW ?_;refine y3 ?_;refine yX ?_;refine aB ?_;refine aN ?_;refine af ?_;refine y4 ?_;refine yM ?_;refine fE ?_
   refine yM ?_;refine y3 ?_;refine au ?_
   refine cG (fun mm e ds h'=>∃(j i:Nat) (m:List (List Nat)),j≤l.length∧i<j∧mm=l.length-j∧e=[(0, .slice (some ⟨b,0,none⟩) l.length UNK),(1, .func (.func g) #[] cap.toArray),(5, .int .i64 (i:Nat)),(6, .int .i64 (j:Nat))]∧ds=[]∧
    WF h'∧h.next≤h'.next∧(∀z,z<lo→h'.get z=h.get z)∧(∀z∈h'.log,vB (.slice (some ⟨b,0,none⟩) l.length UNK) z)∧h'.get b=some (.cells (ssL m++tl) true 8)∧m.length=l.length∧(∀r∈m,IsS r)∧m.take i=(l.take j).filter (fun r=> !P r)∧m.drop j=l.drop j)
    ⟨k+1,k,l,hkl,Nat.lt_succ_self _,rfl,rfl,rfl,hr.wf,Nat.le_refl _,fun _ _=>rfl,(by rw[hr.log];intro z hz;cases hz),hb3,rfl,hl,?_,rfl⟩ ?_
   ·rw[qH h1,h2]
    simp only[Bool.not_true,Bool.false_eq_true,if_false,List.append_nil]
    exact(List.filter_eq_self.2 (fun x hx=>by rw[h4 x hx];rfl)).symm
   rintro mm e ds H ⟨j,i,m,hj,hij,rfl,rfl,rfl,hw,hnx,hold,hlg,gb,hm,hmR,htk,hdr⟩
   have hbn:b<H.next:=WF.jW hw gb
   by_cases hlt:j<l.length
   ·obtain⟨r,hr1⟩:∃r,l[j]? =some r:=⟨l[j],List.getElem?_eq_getElem hlt⟩
    have hmj:m[j]? =some r:=by
     have e1:(m.drop j)[0]? =(l.drop j)[0]? :=by rw[hdr]
     rw[List.getElem?_drop,List.getElem?_drop]at e1
     exact e1.trans hr1
    have hrR:=hmR r (List.mem_of_getElem? hmj)
    have ra0:=mV (t:=tl) hmR hmj
    have rl:=aP hrR.len
    have rk8:=bq hrR.len
    have rln:=hrR.len
    refine af ?_;refine y4 ?_;refine yM ?_;refine yM ?_;refine yD ?_;refine yt ?_;refine y3 ?_
    refine yY ?_;refine aB ?_;refine aN ?_;refine af ?_;refine au ?_;refine y4 ?_;refine yM ?_;refine yM ?_;refine yI ?_;refine yV ?_
    refine ak (cQ) ?_;refine ak (cO (by exact rfl) (by exact rfl) (by(simp(disch:=first|omega|(simp only[z1,z2];omega))only[z3,z4,z5,z6,z7,z1,z2,hb3,gb];exact rfl)) (by(simp only[aH];assumption)) (by exact rfl) (by exact cW _)) ?_
    refine y3 ?_;refine y4 ?_;refine yM ?_
    refine ak (dA (by exact rfl) (by(simp(disch:=first|omega|(simp only[z1,z2];omega))only[z3,z4,z5,z6,z7,z1,z2,hb3,gb];exact rfl)) (by assumption) (by assumption)) ?_
    have W2:WF (((H.push (.cells (aM 8 (.int .u64 0)) true 1)).wr h.next H.next (.cells (us r) true 1))):=(hw.push (.cells (aM 8 (.int .u64 0)) true 1)).as (AS.wr h.next _ _ _)
    have HPr:=HP _ W2 (show h.next≤H.next+1 by omega) (fun z hz=>by
     rw[z5 (by omega),z4 (by omega)];exact hold z hz) r hrR
    refine qU (wX (all:=sv r::cap) (by exact rfl) (by exact rfl) (by exact rfl) (by rw[dL,dL];simp[sv])) ?_
    refine FW.pu HPr ?_
    clear HPr
    have hlg2:∀z∈(((H.push (.cells (aM 8 (.int .u64 0)) true 1)).wr h.next H.next (.cells (us r) true 1))).log,vB (.slice (some ⟨b,0,none⟩) l.length UNK) z:=by
     rw[Heap.aC hnx];exact hlg
    have gb2:(((H.push (.cells (aM 8 (.int .u64 0)) true 1)).wr h.next H.next (.cells (us r) true 1))).get b=some (.cells (ssL m++tl) true 8):=by
     rw[z5 (by omega),z4 hbn];exact gb
    have gn2:(((H.push (.cells (aM 8 (.int .u64 0)) true 1)).wr h.next H.next (.cells (us r) true 1))).get H.next=some (.cells (us r) true 1):=by
     rw[z6,z3];rfl
    have hold2:∀z,z<lo→(((H.push (.cells (aM 8 (.int .u64 0)) true 1)).wr h.next H.next (.cells (us r) true 1))).get z=h.get z:=fun z hz=>by
     rw[z5 (by omega),z4 (by omega)];exact hold z hz
    have hnx2:(((H.push (.cells (aM 8 (.int .u64 0)) true 1)).wr h.next H.next (.cells (us r) true 1))).next=H.next+1:=rfl
    generalize(((H.push (.cells (aM 8 (.int .u64 0)) true 1)).wr h.next H.next (.cells (us r) true 1)))=H2 at*
    cases hp:P r with
    |true=>
     refine yA ?_;refine y3 ?_;refine yX ?_;refine aB ?_;refine eD ?_;refine aN ?_;refine aA ?_;refine yM ?_
     refine fE ?_;refine yM ?_;refine y3 ?_
     refine⟨l.length-(j+1),by omega,j+1,i,m,by omega,by omega,rfl,rfl,rfl,W2,by omega,hold2,hlg2,gb2,hm,hmR,?_,?_⟩
     ·rw[qH hr1,hp,htk];simp
     ·rw[←List.drop_drop,←List.drop_drop,hdr]
    |false=>
     have kc:=wv (t:=tl) hmR hrR (i:=i) (by omega)
     have kw:cU (ssL m++tl) (0+i*8) (cellsOf (sv r))=ssL (m.set i r)++tl:=by
      have e:cellsOf (sv r)=us r:=by show(us r).toArray.toList=_;simp
      rw[e,xN hmR hrR (by omega)]
     refine yA ?_;refine y3 ?_;refine yY ?_;refine y4 ?_;refine yM ?_;refine yM ?_
     refine yV ?_;refine yI ?_
     refine ak (jb (by exact rfl) (by exact rfl) gb2 kc kw) ?_
     refine y3 ?_;refine aA ?_;refine yM ?_;refine fE ?_;refine yM ?_;refine dK ?_
     refine y1 ?_;refine eD ?_;refine aN ?_;refine aA ?_;refine yM ?_;refine fE ?_;refine yM ?_;refine y3 ?_
     refine⟨l.length-(j+1),by omega,j+1,i+1,m.set i r,by omega,by omega,rfl,rfl,rfl,W2.as (AS.wr h.next _ _ _),(by show h.next≤H2.next;omega),?_,xO hlg2 ⟨_,_,rfl⟩,?_,by rw[List.length_set];exact hm,?_,?_,?_⟩
     ·intro z hz
      rw[z5 (by omega)];exact hold2 z hz
     ·rw[z6,gb2];rfl
     ·intro x hx
      rcases List.mem_or_eq_of_mem_set hx with hx|rfl
      ·exact hmR x hx
      ·exact hrR
     ·rw[vG (by omega),qH hr1,hp,htk];simp
     ·rw[vl (by omega),←List.drop_drop,←List.drop_drop,hdr]
   ·obtain rfl:j=l.length:=by omega
    rw[List.take_length]at htk
    have hz:(eN (l.length-i) zS).length=(l.length-i)*8:=by rw[jN];rfl
    have hle:i≤l.length:=by omega
    have hml:=eS hmR
    refine af ?_;refine y4 ?_;refine yM ?_;refine yM ?_;refine yD ?_;refine yf ?_;refine y3 ?_
    refine yX ?_;refine cA ?_;refine dy ?_;refine dy ?_;refine fV ?_;refine aN ?_;refine y4 ?_;refine yM ?_;refine yM ?_;refine ak (mF (by exact rfl) (by exact rfl) (by assumption) (by omega)) ?_
    refine ak (B0 (z:=zS) (by exact rfl) (by omega) gb (by rw[hz,List.length_append,hml];omega) (by exact xL _) rfl) ?_
    refine y3 ?_;refine y4 ?_;refine yM ?_;refine yM ?_
    refine ak (o7 (by exact rfl) (by exact rfl) (by(simp(disch:=first|omega|(simp only[z1,z2];omega))only[z3,z4,z5,z6,z7,z1,z2,hb3,gb];exact rfl)) (by omega) (by omega)) ?_;refine yM ?_;refine y3 ?_;refine aJ ?_
    refine lX (xO hlg ⟨_,_,rfl⟩) rfl ?_
    have hi2:(l.filter fun r=> !P r).length=i:=by
     rw[←htk,List.length_take];omega
    obtain⟨t',ht'⟩:=uo (t:=tl) (i:=i) (ws:=cU (ssL m++tl) (0+i*8) (eN (l.length-i) zS)) hmR (by omega) htk (by rw[hm])
    refine .inr ⟨b,UNK,t',hb1,hbn,?_,?_,by unfold UNK;omega,fun _=>rfl⟩
    ·rw[z6,gb,z7,ht']
    ·rw[hi2];rfl
 ·obtain⟨h1,h2⟩:=y6 P l 0 hi
  rw[h1]
  refine yM ?_;refine y3 ?_;refine af ?_;refine y4 ?_;refine yM ?_;refine yt ?_;refine y3 ?_;refine yY ?_;refine y4 ?_;refine yM ?_;refine yM ?_;refine y3 ?_;refine aJ ?_;refine eC ?_
  refine lX (by rw[hr.log];intro z hz;cases hz) rfl ?_
  show OwS lo h (.slice a l.length c) _
  rw[List.filter_eq_self.2 (fun x hx=>by rw[h2 x hx];rfl)]
  exact q
def ddS:List (List Nat)→List (List Nat)
 |a::b::l=>if a=b then ddS (b::l)else a::ddS (b::l)
 |l=>l
theorem uh:∀(l:List (List Nat)) (y x:List Nat),ddS (l++[y,x])=if y=x then ddS (l++[y])else ddS (l++[y])++[x]
 |[],y,x=>by
  show(if y=x then [x]else y::[x])=if y=x then [y]else [y]++[x]
  by_cases h:y=x
  ·rw[if_pos h,if_pos h,h]
  ·rw[if_neg h,if_neg h];rfl
 |[a],y,x=>by
  have ih:=uh [] y x
  simp only[List.nil_append]at ih
  show(if a=y then ddS (y::[x])else a::ddS (y::[x]))=_
  have e:ddS ([a]++[y])=if a=y then ddS [y]else a::ddS [y]:=rfl
  rw[e,ih]
  by_cases h:a=y
  ·simp only[if_pos h]
  ·simp only[if_neg h]
   by_cases h2:y=x
   ·simp only[if_pos h2]
   ·simp only[if_neg h2];rfl
 |a::b::l,y,x=>by
  have ih:=uh (b::l) y x
  show(if a=b then ddS (b::l++[y,x])else a::ddS (b::l++[y,x]))=_
  have e:ddS (a::b::l++[y])=if a=b then ddS (b::l++[y])else a::ddS (b::l++[y]):=rfl
  rw[e,ih]
  by_cases h:a=b
  ·simp only[if_pos h]
  ·simp only[if_neg h]
   by_cases h2:y=x
   ·simp only[if_pos h2]
   ·simp only[if_neg h2];rfl
theorem yq{l:List (List Nat)}{k:Nat}{y x:List Nat}(hy:l[k]? =some y)(hx:l[k+1]? =some x):ddS (l.take (k+1+1))=if y=x then ddS (l.take (k+1))else ddS (l.take (k+1))++[x]:=by
 rw[fS hx,fS hy,List.append_assoc]
 exact uh _ y x
theorem mT:∀{l:List (List Nat)} {x:List Nat},x∈ddS l→x∈l
 |[],_,h=>h
 |[a],_,h=>h
 |a::b::l,x,h=>by
  unfold ddS at h
  by_cases e:a=b
  ·rw[if_pos e]at h;exact List.mem_cons_of_mem _ (mT h)
  ·rw[if_neg e]at h
   rcases List.mem_cons.1 h with rfl|h
   ·exact List.mem_cons_self
   ·exact List.mem_cons_of_mem _ (mT h)
theorem p8:∀{l:List (List Nat)} {x:List Nat},x∈l→x∈ddS l
 |[],_,h=>h
 |[a],_,h=>h
 |a::b::l,x,h=>by
  unfold ddS
  by_cases e:a=b
  ·rw[if_pos e]
   rcases List.mem_cons.1 h with rfl|h
   ·exact p8 (by rw[e];exact List.mem_cons_self)
   ·exact p8 h
  ·rw[if_neg e]
   rcases List.mem_cons.1 h with rfl|h
   ·exact List.mem_cons_self
   ·exact List.mem_cons_of_mem _ (p8 h)
theorem uZ{m l:List (List Nat)}{n:Nat}(h:m.drop n=l.drop n):m.drop (n+1)=l.drop (n+1):=by
 have:=congrArg (List.drop 1) h
 rwa [List.drop_drop,List.drop_drop]at this
theorem xh:∀l:List (List Nat),(ddS l).length≤l.length
 |[]=>Nat.le_refl _
 |[a]=>Nat.le_refl _
 |a::b::l=>by
  have ih:=xh (b::l)
  unfold ddS
  by_cases e:a=b
  ·rw[if_pos e];exact Nat.le_succ_of_le ih
  ·rw[if_neg e];exact Nat.succ_le_succ ih
set_option maxHeartbeats 8000000 in
theorem tA(hp:bg T)(hf:T 192=some f192){h:Heap}(hr:Rdy h){lo:Nat}{l:List (List Nat)}{v:Value}(q:OwS lo h v l)(hl:∀r∈l,IsS r)(hn:l.length<1000000):
 Gs T 192 [v] h (vB v) (fun v h'=>OwS lo h' v (ddS l)):=by
 obtain⟨a,c,rfl⟩:=q.form
 refine .of hp hf ?_ ?_
 ·intro v h1 h2 hv hn2 hag hq
  exact OwS.flat hv hq
 by_cases h2:l.length<2
 ·have e:ddS l=l:=by
   match l,h2 with
   |[],_=>rfl
   |[_],_=>rfl
  rw[e]
  have m1:aq .lss (.int .i64 (l.length:Nat)) (.int .i64 2)=some (.bool true):=fm (by omega)
  refine y4 ?_;refine yM ?_;refine y3 ?_;refine af ?_;refine y4 ?_;refine yM ?_;refine yD ?_
  refine yW ?_;refine y3 ?_;refine yY ?_;refine y4 ?_;refine yM ?_;refine yM ?_;refine y3 ?_;refine aJ ?_;refine eC ?_
  exact lX (by rw[hr.log];intro z hz;cases hz) rfl q
 have m0:aq .lss (.int .i64 (l.length:Nat)) (.int .i64 2)=some (.bool false):=fF (by omega)
 rcases q with⟨_,rfl⟩|⟨b,c',tl,hb1,hb2,hb3,hv,hcl,hcu⟩
 ·exact absurd (show([]:List (List Nat)).length<2 by decide) h2
 cases hv
 obtain rfl:=hcu (fun q=>by rw[q]at h2;simp at h2)
 refine y4 ?_;refine yM ?_;refine y3 ?_;refine af ?_;refine y4 ?_;refine yM ?_;refine yD ?_
 refine yW ?_;refine y3 ?_;refine yX ?_;refine aB ?_;refine aN ?_;refine af ?_;refine y4 ?_;refine yM ?_
 refine y3 ?_;refine au ?_
 refine cG (fun mm e ds h'=>∃k:Nat,k+1≤l.length∧l.length-(k+1)=mm∧e=[(0, .slice (some ⟨b,0,none⟩) l.length UNK),(3, .int .i64 ((k+1:Nat):Int))]∧ds=[]∧h=h'∧ddS (l.take (k+1))=l.take (k+1))
  ⟨0,by omega,rfl,rfl,rfl,rfl,?_⟩ ?_
 ·cases l with
  |nil=>rfl
  |cons a l=>rfl
 rintro mm e ds _ ⟨k,hk,rfl,rfl,rfl,rfl,hdd⟩
 by_cases hlt:k+1<l.length
 ·obtain⟨x,hx⟩:∃r,l[k+1]? =some r:=⟨l[k+1],List.getElem?_eq_getElem hlt⟩
  obtain⟨y,hy⟩:∃r,l[k]? =some r:=⟨l[k],List.getElem?_eq_getElem (by omega)⟩
  have hxs:=hl x (List.mem_of_getElem? hx)
  have hys:=hl y (List.mem_of_getElem? hy)
  have hst:=yq hy hx
  have rx:=mV (t:=tl) hl hx
  have ry:=mV (t:=tl) hl hy
  have kx:=aP hxs.len
  have ky:=aP hys.len
  have mlt:aq .lss (.int .i64 ((k+1:Nat):Int)) (.int .i64 (l.length:Nat))=some (.bool true):=fm (by omega)
  have msb:aq .sub (.int .i64 ((k+1:Nat):Int)) (.int .i64 1)=some (.int .i64 ((k:Nat):Int)):=lB (by rw[bT]<;>omega)
  by_cases hxy:y=x
  ·rw[if_pos hxy,hdd]at hst
   refine af ?_;refine y4 ?_;refine yM ?_;refine yM ?_;refine yD ?_;refine yW ?_;refine y3 ?_
   refine yY ?_;refine aB ?_;refine aN ?_;refine af ?_;refine au ?_;refine af ?_;refine bQ ?_;refine qM ?_;refine qM ?_
   refine qI ?_;refine qV ?_;refine qM ?_
   refine qM ?_;refine qW ?_;refine qI ?_
   refine qV ?_
   refine aI rfl rfl rfl (by exact rfl) (by exact rfl) (by exact rfl) (iZ (b:=y) (by exact rfl) (by exact rfl) hxs.len hys.len) ?_
   rw[decide_eq_true hxy.symm]
   refine cK ?_;refine y1 ?_;refine aN ?_;refine yY ?_;refine y4 ?_;refine yM ?_;refine yM ?_;refine ak (mF (by exact rfl) (by exact rfl) (by assumption) (by omega)) ?_
   refine yM ?_;refine y3 ?_;refine af ?_;refine y4 ?_;refine yM ?_;refine y3 ?_;refine au ?_
   refine cG (fun mm e ds h'=>∃(k2 i:Nat) (m:List (List Nat)),k2+1≤l.length-(k+1)∧l.length-(k+1)-(k2+1)=mm∧e=[(0, .slice (some ⟨b,0,none⟩) l.length UNK),(3, .int .i64 (i:Nat)),(4, .slice (some ⟨b,0+(k+1)*8,none⟩) (l.length-(k+1)) UNK),(5, .int .i64 ((k2+1:Nat):Int))]∧ds=[]∧
    WF h'∧h.next≤h'.next∧(∀z,z<lo→h'.get z=h.get z)∧(∀z∈h'.log,vB (.slice (some ⟨b,0,none⟩) l.length UNK) z)∧h'.get b=some (.cells (ssL m++tl) true 8)∧m.length=l.length∧(∀r∈m,IsS r)∧i≤k+1+k2∧m.take i=ddS (l.take (k+1+k2+1))∧m.drop (k+1+k2)=l.drop (k+1+k2))
    ⟨0,k+1,l,by omega,rfl,rfl,rfl,hr.wf,Nat.le_refl _,fun _ _=>rfl,(by rw[hr.log];intro z hz;cases hz),hb3,rfl,hl,Nat.le_refl _,hst.symm,rfl⟩ ?_
   rintro mm e ds H ⟨k2,i,m,hk2,rfl,rfl,rfl,hw,hnx,hold,hlg,gb,hm,hmR,hik,htk,hdr⟩
   have hbn:b<H.next:=WF.jW hw gb
   clear hx hy hxs hys hst rx ry kx ky mlt msb hxy
   by_cases hlt2:k2+1<l.length-(k+1)
   ·obtain⟨x',hx'⟩:∃r,l[k+1+k2+1]? =some r:=⟨l[k+1+k2+1],List.getElem?_eq_getElem (by omega)⟩
    obtain⟨y',hy'⟩:∃r,l[k+1+k2]? =some r:=⟨l[k+1+k2],List.getElem?_eq_getElem (by omega)⟩
    have mx:m[k+1+k2+1]? =some x':=by
     have e1:(m.drop (k+1+k2))[1]? =(l.drop (k+1+k2))[1]? :=by rw[hdr]
     rw[List.getElem?_drop,List.getElem?_drop]at e1
     exact e1.trans hx'
    have my:m[k+1+k2]? =some y':=by
     have e1:(m.drop (k+1+k2))[0]? =(l.drop (k+1+k2))[0]? :=by rw[hdr]
     rw[List.getElem?_drop,List.getElem?_drop]at e1
     exact e1.trans hy'
    have hxs:=hmR x' (List.mem_of_getElem? mx)
    have hys:=hmR y' (List.mem_of_getElem? my)
    have hst:=yq hy' hx'
    have rx:=mV (t:=tl) hmR mx
    have ry:=mV (t:=tl) hmR my
    rw[show 0+(k+1+k2+1)*8=0+(k+1)*8+(k2+1)*8 by omega]at rx
    rw[show 0+(k+1+k2)*8=0+(k+1)*8+k2*8 by omega]at ry
    have kx:=aP hxs.len
    have ky:=aP hys.len
    have mlt:aq .lss (.int .i64 ((k2+1:Nat):Int)) (.int .i64 ((l.length-(k+1):Nat):Int))=some (.bool true):=fm (by omega)
    have msb:aq .sub (.int .i64 ((k2+1:Nat):Int)) (.int .i64 1)=some (.int .i64 ((k2:Nat):Int)):=lB (by rw[bT]<;>omega)
    by_cases hxy:y'=x'
    ·rw[if_pos hxy]at hst
     refine af ?_;refine y4 ?_;refine yM ?_;refine yM ?_;refine yD ?_;refine yW ?_;refine y3 ?_
     refine yY ?_;refine aB ?_;refine aN ?_;refine af ?_;refine au ?_;refine af ?_;refine bQ ?_;refine qM ?_;refine qM ?_
     refine qI ?_;refine qV ?_;refine qM ?_
     refine qM ?_;refine qW ?_;refine qI ?_
     refine qV ?_
     refine aI rfl rfl rfl (by exact rfl) (by exact rfl) (by exact rfl) (iZ (b:=y') (by exact rfl) (by exact rfl) hxs.len hys.len) ?_
     rw[decide_eq_true hxy.symm]
     refine cK ?_;refine y1 ?_;refine aN ?_;refine yX ?_;refine aB ?_;refine eD ?_;refine aN ?_;refine aA ?_;refine yM ?_;refine fE ?_
     refine yM ?_;refine y3 ?_
     exact⟨l.length-(k+1)-(k2+1+1),by omega,k2+1,i,m,by omega,rfl,rfl,rfl,hw,hnx,hold,hlg,gb,hm,hmR,by omega,by rw[htk,←hst];rfl,uZ hdr⟩
    ·rw[if_neg hxy]at hst
     have kc:=wv (t:=tl) hmR hxs (i:=i) (by omega)
     have kw:cU (ssL m++tl) (0+i*8) (cellsOf (sv x'))=ssL (m.set i x')++tl:=by
      have e:cellsOf (sv x')=us x':=by show(us x').toArray.toList=_;simp
      rw[e,xN hmR hxs (by omega)]
     refine af ?_;refine y4 ?_;refine yM ?_;refine yM ?_;refine yD ?_;refine yW ?_;refine y3 ?_
     refine yY ?_;refine aB ?_;refine aN ?_;refine af ?_;refine au ?_;refine af ?_;refine bQ ?_;refine qM ?_;refine qM ?_
     refine qI ?_;refine qV ?_;refine qM ?_
     refine qM ?_;refine qW ?_;refine qI ?_
     refine qV ?_
     refine aI rfl rfl rfl (by exact rfl) (by exact rfl) (by exact rfl) (iZ (b:=y') (by exact rfl) (by exact rfl) hxs.len hys.len) ?_
     rw[decide_eq_false (Ne.symm hxy)]
     refine cK ?_;refine y1 ?_;refine aN ?_;refine yY ?_;refine y4 ?_;refine yM ?_;refine yM ?_;refine yM ?_;refine yM ?_
     refine yI ?_;refine yV ?_;refine yI ?_
     refine ak (jb (by exact rfl) (by exact rfl) gb kc kw) ?_
     refine y3 ?_;refine aA ?_;refine yM ?_;refine fE ?_;refine yM ?_;refine dK ?_
     refine y1 ?_;refine eD ?_;refine aN ?_;refine aA ?_;refine yM ?_;refine fE ?_;refine yM ?_;refine y3 ?_
     refine⟨l.length-(k+1)-(k2+1+1),by omega,k2+1,i+1,m.set i x',by omega,rfl,rfl,rfl,hw.as (AS.wr h.next _ _ _),hnx,?_,xO hlg ⟨_,_,rfl⟩,?_,by rw[List.length_set];exact hm,?_,by omega,?_,?_⟩
     ·intro z hz
      rw[z5 (by omega)];exact hold z hz
     ·rw[z6,gb];rfl
     ·intro r hx
      rcases List.mem_or_eq_of_mem_set hx with hx|rfl
      ·exact hmR r hx
      ·exact hxs
     ·rw[vG (by omega),htk,←Nat.add_assoc,hst]
     ·rw[vl (by omega)];exact uZ hdr
   ·have hkl:k+1+k2+1=l.length:=by omega
    rw[hkl,List.take_length]at htk
    have mlt:aq .lss (.int .i64 ((k2+1:Nat):Int)) (.int .i64 ((l.length-(k+1):Nat):Int))=some (.bool false):=fF (by omega)
    have hz:(eN (l.length-i) zS).length=(l.length-i)*8:=by rw[jN];rfl
    have hml:=eS hmR
    refine af ?_;refine y4 ?_;refine yM ?_;refine yM ?_;refine yD ?_;refine yW ?_;refine y3 ?_
    refine yX ?_;refine cA ?_;refine dy ?_;refine dy ?_;refine fV ?_;refine aN ?_;refine y4 ?_;refine yM ?_;refine yM ?_;refine ak (mF (by exact rfl) (by exact rfl) (by assumption) (by omega)) ?_
    refine ak (B0 (z:=zS) (by exact rfl) (by omega) gb (by rw[hz,List.length_append,hml];omega) (by exact xL _) rfl) ?_
    refine y3 ?_;refine y4 ?_;refine yM ?_;refine yM ?_
    refine ak (o7 (by exact rfl) (by exact rfl) (by(simp(disch:=first|omega|(simp only[z1,z2];omega))only[z3,z4,z5,z6,z7,z1,z2,hb3,gb];exact rfl)) (by omega) (by omega)) ?_;refine yM ?_;refine y3 ?_;refine aJ ?_;refine jT ?_;refine eC ?_;refine eC ?_;refine jT ?_;refine eC ?_
    refine lX (xO hlg ⟨_,_,rfl⟩) rfl ?_
    have hi2:(ddS l).length=i:=by
     rw[←htk,List.length_take];omega
    obtain⟨t',ht'⟩:=uo (t:=tl) (i:=i) (ws:=cU (ssL m++tl) (0+i*8) (eN (l.length-i) zS)) hmR (by omega) htk (by rw[hm])
    refine .inr ⟨b,UNK,t',hb1,hbn,?_,?_,by unfold UNK;omega,fun _=>rfl⟩
    ·rw[z6,gb,z7,ht']
    ·rw[hi2];rfl
  ·rw[if_neg hxy,hdd,←fS hx]at hst
   refine af ?_;refine y4 ?_;refine yM ?_;refine yM ?_;refine yD ?_;refine yW ?_;refine y3 ?_
   refine yY ?_;refine aB ?_;refine aN ?_;refine af ?_;refine au ?_;refine af ?_;refine bQ ?_;refine qM ?_;refine qM ?_
   refine qI ?_;refine qV ?_;refine qM ?_
   refine qM ?_;refine qW ?_;refine qI ?_
   refine qV ?_
   refine aI rfl rfl rfl (by exact rfl) (by exact rfl) (by exact rfl) (iZ (b:=y) (by exact rfl) (by exact rfl) hxs.len hys.len) ?_
   rw[decide_eq_false (Ne.symm hxy)]
   refine cK ?_;refine y1 ?_;refine aN ?_;refine yX ?_;refine aB ?_;refine eD ?_;refine aN ?_;refine aA ?_;refine yM ?_;refine fE ?_
   refine yM ?_;refine y3 ?_
   exact⟨l.length-(k+1+1),by omega,k+1,by omega,rfl,rfl,rfl,rfl,hst⟩
 ·have hkl:k+1=l.length:=by omega
  rw[hkl,List.take_length]at hdd
  have mlt:aq .lss (.int .i64 ((k+1:Nat):Int)) (.int .i64 (l.length:Nat))=some (.bool false):=fF (by omega)
  refine af ?_;refine y4 ?_;refine yM ?_;refine yM ?_;refine yD ?_;refine yW ?_;refine y3 ?_
  refine yX ?_;refine cA ?_;refine dy ?_;refine dy ?_;refine fV ?_;refine aN ?_;refine y4 ?_;refine yM ?_;refine yM ?_;refine y3 ?_;refine aJ ?_
  refine lX (by rw[hr.log];intro z hz;cases hz) rfl ?_
  rw[hdd]
  exact .inr ⟨b,UNK,tl,hb1,hb2,hb3,rfl,hcl,fun _=>rfl⟩
end Go.A.Pk
end
