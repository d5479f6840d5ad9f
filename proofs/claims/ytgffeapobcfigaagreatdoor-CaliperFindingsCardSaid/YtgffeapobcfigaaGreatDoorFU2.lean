/- Walks of functions, plain laws, the table. -/
import Derived.Test.YtgffeapobcfigaaGreatDoorFU1
import Derived.Test.YtgffeapobcfigaaGreatDoorFU0
import Derived.Test.YtgffeapobcfigaaGreatDoorFF
import Derived.Test.YtgffeapobcfigaaGreatDoorFD
import Derived.Sort.Row
import Derived.Sort.Grow
import Derived.Test.YtgffeapobcfigaaGreatDoorFV
set_option linter.all false
set_option maxHeartbeats 16000000
set_option maxRecDepth 100000
section
namespace Go.A.Pk
theorem xX{a b:List Nat}(ha:IsS a)(hb:IsS b)(c:Ce):dN (pH a b) c=(dN a c&&dN b c):=by
 by_cases hc:inG c=true
 ·obtain⟨z,i,hz,hi,rfl⟩:=gP hc;rw[eS hz hi,eS hz hi,eS hz hi];unfold pH qd;rw[va ha hb hz];exact Nat.testBit_and ..
 ·rw[fJ hc,fJ hc,fJ hc];rfl
theorem uv{a b:List Nat}(ha:IsS a)(hb:IsS b)(h:∀z i,z<8->i<64->dN a (dY z i)=dN b (dY z i)):a=b:=by
 apply List.ext_getElem?;intro z;rcases Nat.lt_or_ge z 8 with hz|hz
 ·rw[jP (by rw[ha.len];exact hz),jP (by rw[hb.len];exact hz)];congr 1;apply Nat.eq_of_testBit_eq;intro i;rcases Nat.lt_or_ge i 64 with hi|hi
  ·have:=h z i hz hi
   rwa [eS hz hi,eS hz hi]at this
  ·have big:∀x:Nat,x<U64->x.testBit i=false:=λx hx=>Nat.testBit_lt_two_pow (Nat.lt_of_lt_of_le hx (show 2 ^ 64<=2 ^ i from Nat.pow_le_pow_right (by omega) hi));rw[big _ (ha.jL z),big _ (hb.jL z)]
 ·rw[List.getElem?_eq_none (by rw[ha.len];exact hz),List.getElem?_eq_none (by rw[hb.len];exact hz)]
theorem HZ{z i:Nat}(hz:z<8)(hi:i<64):dY z i∈(List.range 512).map ceN:=by
 rw[←zn hi];exact List.mem_map_of_mem (List.mem_range.2 (by omega))
def mlo(f:Ce->Int)(m:Int)(l:List Ce):Int:=l.foldl (λm c=>mi m (f c)) m
def mhi(f:Ce->Int)(m:Int)(l:List Ce):Int:=l.foldl (λm c=>mx m (f c)) m
theorem OE(a b:Int):mi a b<=a:=by unfold mi;split<;>omega
theorem Px(a b:Int):mi a b<=b:=by unfold mi;split<;>omega
theorem O1(a b:Int):a<=mx a b:=by unfold mx;split<;>omega
theorem Ov(a b:Int):b<=mx a b:=by unfold mx;split<;>omega
theorem RT{k a b:Int}(h1:k<=a)(h2:k<=b):k<=mi a b:=by unfold mi;split<;>omega
theorem Rr{k a b:Int}(h1:a<=k)(h2:b<=k):mx a b<=k:=by unfold mx;split<;>omega
theorem y7(f:Ce->Int):∀(l:List Ce) (m:Int),mlo f m l<=m/\∀c∈l,mlo f m l<=f c
 |[],m=>⟨Int.le_refl _,λc hc=>by cases hc⟩
 |c::l,m=>by
  obtain⟨h1,h2⟩:=y7 f l (mi m (f c));refine⟨Int.le_trans h1 (OE _ _),λd hd=> ?_⟩;rcases List.mem_cons.1 hd with rfl|hd
  ·exact Int.le_trans h1 (Px _ _)
  ·exact h2 d hd
theorem AF(f:Ce->Int){k:Int}:∀(l:List Ce) (m:Int),k<=m->(∀c∈l,k<=f c)->k<=mlo f m l
 |[],_,h,_=>h
 |c::l,m,h,hl=>AF f l (mi m (f c)) (RT h (hl c List.mem_cons_self)) λd hd=>hl d (List.mem_cons_of_mem _ hd)
theorem zi(f:Ce->Int):∀(l:List Ce) (m:Int),m<=mhi f m l/\∀c∈l,f c<=mhi f m l
 |[],m=>⟨Int.le_refl _,λc hc=>by cases hc⟩
 |c::l,m=>by
  obtain⟨h1,h2⟩:=zi f l (mx m (f c));refine⟨Int.le_trans (O1 _ _) h1,λd hd=> ?_⟩;rcases List.mem_cons.1 hd with rfl|hd
  ·exact Int.le_trans (Ov _ _) h1
  ·exact h2 d hd
theorem zG(f:Ce->Int){k:Int}:∀(l:List Ce) (m:Int),m<=k->(∀c∈l,f c<=k)->mhi f m l<=k
 |[],_,h,_=>h
 |c::l,m,h,hl=>zG f l (mx m (f c)) (Rr h (hl c List.mem_cons_self)) λd hd=>hl d (List.mem_cons_of_mem _ hd)
theorem Eh:∀(l:List Ce) (b:Bx),l.foldl nW b=⟨⟨mlo (·.x) b.lo.x l,mlo (·.y) b.lo.y l,mlo (·.z) b.lo.z l⟩,⟨mhi (·.x) b.hi.x l,mhi (·.y) b.hi.y l,mhi (·.z) b.hi.z l⟩⟩
 |[],b=>rfl
 |c::l,b=>by rw[List.foldl_cons,Eh l (nW b c)];rfl
theorem CM(l:List Ce):bxS l=⟨⟨mlo (·.x) 7 l,mlo (·.y) 7 l,mlo (·.z) 7 l⟩,⟨mhi (·.x) 0 l,mhi (·.y) 0 l,mhi (·.z) 0 l⟩⟩:=Eh l bx0
def Sub(a b:List Nat):Prop:=∀c,dN a c=true->dN b c=true
theorem filter_le{α:Type}{p q:α->Bool}(h:∀x,p x=true->q x=true):∀l:List α,(l.filter p).length<=(l.filter q).length
 |[]=>Nat.le_refl _
 |x::l=>by
  have ih:=filter_le h l;rw[List.filter_cons,List.filter_cons];by_cases hp:p x=true
  ·rw[if_pos hp,if_pos (h x hp)];simpa using ih
  ·rw[if_neg hp];split
   ·exact Nat.le_succ_of_le ih
   ·exact ih
theorem Sub.cnt{a b:List Nat}(h:Sub a b):ew a<=ew b:=filter_le h _
theorem kE{a b:List Nat}(ha:IsS a)(hb:IsS b):sIn a b=true↔Sub a b:=by
 unfold sIn;rw[decide_eq_true_eq];constructor
 ·intro h c hc;have e:dN (pH a b) c=dN a c:=by rw[h]
  rw[xX ha hb,hc,Bool.true_and]at e;exact e
 ·intro h;refine uv (ha.meet hb) ha λz i hz hi=> ?_;rw[xX ha hb];cases hc:dN a (dY z i)with
  |false=>rfl
  |true=>rw[h _ hc];rfl
end Go.A.Pk
end
section
namespace Go.A.Pk
variable {T:Nat->Option af}
abbrev CeQ(h:Heap)(v:Value)(l:List Ce):Prop:=bA h 3 v l.length (ceS l)
theorem CeQ.elem{h:Heap}{v:Value}{l:List Ce}(s:CeQ h v l){i:Nat}{x:Ce}(hi:l[i]? =some x):
 ∃b o c vs own t,v= .slice (some ⟨b,o,none⟩) l.length c/\h.get b=some (.cells vs own t)/\b<h.next/\bK 3 (bE (o+i*3) vs)=ceL x/\bP vs (o+i*3+0)=some (.int .i64 x.x)/\bP vs (o+i*3+1)=some (.int .i64 x.y)/\bP vs (o+i*3+2)=some (.int .i64 x.z):=by
 have hlt:=(List.getElem?_eq_some_iff.1 hi).1;rcases bA.inv s with⟨_,_,h0,_⟩|⟨b,o,cap,hv,s1,hc⟩
 ·omega
 ·obtain⟨vs,own,t,g1,g2⟩:=s1.obj;have hsp:∀(l:List Ce) (i:Nat),l[i]? =some x->((ceS l).drop (i*3)).take 3=ceL x:=by
   intro l;induction l with
   |nil=>intro i h;simp at h
   |cons c l ih=>
    intro i h;cases i with
    |zero=>simp at h;subst h;rfl
    |succ i=>
     have e:ceS (c::l)=ceL c++ceS l:=rfl;rw[e,show(i+1)*3=3+i*3 by omega,←List.drop_drop];exact ih i (by simpa using h)
  have e:=hsp l i hi;rw[←g2]at e;have e2:bK 3 (bE (o+i*3) vs)=ceL x:=by
   rw[←e];simp only[bS,bn,List.drop_take,List.take_take,List.drop_drop];congr 1;omega
  have e3:∀j v,j<3->(ceL x)[j]? =some v->bP vs (o+i*3+j)=some v:=by
   intro j v hj h;rw[←e2,bS,bn,List.getElem?_take_of_lt hj,List.getElem?_drop]at h;rw[cF];exact h
  exact⟨b,o,cap,vs,own,t,hv,g1,s1.lt,e2,e3 0 _ (by omega) rfl,e3 1 _ (by omega) rfl,e3 2 _ (by omega) rfl⟩
theorem AE(F:ER T)(hf:T 84=some f84){h:Heap}(hr:Rdy h){s:List Nat}(hs:IsS s):Pu T 84 [sv s] h (.int .i64 ((ew s:Nat):Int)):=by
 refine .of F.hr.p hf hr rfl ?_;have k8:=aG hs.len;have k9:=aN hs.len;have x0:Ext h (h.push (.cells (cellsOf (sv s)) true 1)):=(Ext.refl h).push _;have g0:(h.push (.cells (cellsOf (sv s)) true 1)).get h.next=some (.cells (us s) true 1):=z3 h _
 refine Y4 ?_;generalize(h.push (.cells (cellsOf (sv s)) true 1))=H at*;have W:=x0.wf hr.wf;have hL:=x0.log.trans hr.log;have hle:=iA s 512;have C:=rR F (h:={H with log:=[]}) (.of W) hs;unfold ew;refine Y3 ?_;refine FW.al C (λv h' m q=>q.log m) ?_;rintro v H1 x1 q;clear C;have hL1:=x1.log.trans hL;obtain⟨a,c,rfl⟩:=(q.slice (by omega)).form;refine Y4 ?_;exact an hL1 rfl rfl
theorem EK(hp:aP T)(hf:T 221=some f221){h:Heap}(hr:Rdy h){o:List Nat}(ho:IsS o){c:Ce}(hc:inG c=true):Pu T 221 [sv o,ceV c] h (sv (kW o c)):=by
 refine .of hp hf hr (gT _) ?_;have hk:=ho.kW hc;obtain⟨z,i,hz,hi,rfl⟩:=gP hc;have e1:=iw (jP (s:=o) (i:=z) (by rw[ho.len];exact hz));have m1:=Ng (a:=o.getD z 0) (b:=2 ^ i) (ho.jL z) (sd hi);have k4:ah .mul (.int .i64 8) (.int .i64 (dY z i).y)=some (.int .i64 (8*((i / 8:Nat):Int))):=EB (b:=((i / 8:Nat):Int)) (by omega) (by omega);have k5:ah .add (.int .i64 (8*((i / 8:Nat):Int))) (.int .i64 (dY z i).x)=some (.int .i64 ((i:Nat):Int)):=lR (b:=((i % 8:Nat):Int)) (by rw[bZ]<;>omega);have k6:=Di (k:= .u64) hi;have k7:fk .u64 ((i:Nat):Int)=((i:Nat):Int):=mO (by omega);have kw:=Aa (o:=o) (z:=z) (v:=Nat.lor (o.getD z 0) (2 ^ i)) (by rw[ho.len];exact hz);rw[←uC o hi]at kw;have kc:(Nat.beq (bO (cellsOf (.int .u64 ((Nat.lor (o.getD z 0) (2 ^ i):Nat):Int)))) 1&&Nat.ble (0+z*1+1) (bO (us o))&&dP (cellsOf (.int .u64 ((Nat.lor (o.getD z 0) (2 ^ i):Nat):Int))))=true:=by
  rw[bV (us o),aA,ho.len,gw (by omega)];rfl
 have lz:bP (ceL (dY z i)) (0+2)=some (.int .i64 ((z:Nat):Int)):=rfl;have g0:(((h.push (.cells (cellsOf (sv o)) true 1)).push (.cells (cellsOf (ceV (dY z i))) true 1)).push (.cells (aD 8 (.int .u64 0)) true 1)).get h.next=some (.cells (us o) true 1):=YG
 have g1:(((h.push (.cells (cellsOf (sv o)) true 1)).push (.cells (cellsOf (ceV (dY z i))) true 1)).push (.cells (aD 8 (.int .u64 0)) true 1)).get (h.next+1)=some (.cells (ceL (dY z i)) true 1):=YG;have g2:(((h.push (.cells (cellsOf (sv o)) true 1)).push (.cells (cellsOf (ceV (dY z i))) true 1)).push (.cells (aD 8 (.int .u64 0)) true 1)).get (h.next+2)=some (.cells (aD 8 (.int .u64 0)) true 1):=YG;have x0:Ext h (((h.push (.cells (cellsOf (sv o)) true 1)).push (.cells (cellsOf (ceV (dY z i))) true 1)).push (.cells (aD 8 (.int .u64 0)) true 1)):=(((Ext.refl h).push _).push _).push _;have n0:(((h.push (.cells (cellsOf (sv o)) true 1)).push (.cells (cellsOf (ceV (dY z i))) true 1)).push (.cells (aD 8 (.int .u64 0)) true 1)).next=h.next+3:=rfl
 refine Y5 ?_;generalize(((h.push (.cells (cellsOf (sv o)) true 1)).push (.cells (cellsOf (ceV (dY z i))) true 1)).push (.cells (aD 8 (.int .u64 0)) true 1))=H at*;have hL:=x0.log.trans hr.log;have k1:=aN hk.len;have k2:=aG hk.len;have k3:=hk.len;refine Y14 ?_;refine aU rfl rfl rfl (by exact rfl) (by exact rfl) (by exact rfl) (wv (by exact rfl) (by assumption)) ?_;refine Y3 ?_;refine gY (vs:=us o) (ws:=us (kW o (dY z i))) rfl rfl rfl (by exact rfl) (by exact rfl) (by exact rfl) g0 kc kw (by omega) (by(repeat apply aI rfl);exact bg) ?_;generalize kW o (dY z i)=o' at*;refine Y4 ?_;refine aB (cC (by exact rfl) YG (by assumption) (by assumption)) ?_;refine aB (aO (by exact rfl) (by exact rfl) YG (by(simp only[aA];assumption)) (by exact rfl) (by exact bB _)) ?_;refine y3 ?_;refine lY ?_;refine an ?_ (aX (own:=true) (s:=1) rfl ?_ k1 k2 rfl) rfl
 ·rw[Heap.aq (by show h.next<=h.next+2;omega),Heap.aq (Nat.le_refl _)];exact hL
 ·exact YG
theorem PN(hp:aP T)(hf:T 267=some f267){h:Heap}(hr:Rdy h){c:Ce}(hc:InB c):Pu T 267 [ceV c, .int .i64 0] h (ceV (dH 0 c)):=by
 refine .of hp hf hr rfl ?_;obtain⟨cx,cy,cz⟩:=c;obtain⟨hx,hy,hz⟩:=hc;dsimp only at hx hy hz;have mx:=dg hx;have my:=dg hy;have mz:=dg hz;have q1:ah .eql (.int .i64 0) (.int .i64 1)=some (.bool false):=rfl;have q2:ah .eql (.int .i64 0) (.int .i64 2)=some (.bool false):=rfl;have q3:ah .eql (.int .i64 0) (.int .i64 3)=some (.bool false):=rfl;have q4:ah .eql (.int .i64 0) (.int .i64 4)=some (.bool false):=rfl;have q5:ah .eql (.int .i64 0) (.int .i64 5)=some (.bool false):=rfl;have ck:bK 3 (bE 0 (ceL (dH 0 ⟨cx,cy,cz⟩)))=ceL (dH 0 ⟨cx,cy,cz⟩):=rfl;refine Y40 ?_;refine Y2 ?_;refine an ?_ (aX (own:=true) (s:=1) rfl ?_ ck rfl rfl) rfl
 ·rw[Heap.aq (by show h.next<=h.next+1;omega)];exact hr.log
 ·exact YG
theorem OQ(hp:aP T)(hf:T 267=some f267){h:Heap}(hr:Rdy h){c:Ce}(hc:InB c):Pu T 267 [ceV c, .int .i64 1] h (ceV (dH 1 c)):=by
 refine .of hp hf hr rfl ?_;obtain⟨cx,cy,cz⟩:=c;obtain⟨hx,hy,hz⟩:=hc;dsimp only at hx hy hz;have mx:=dg hx;have my:=dg hy;have mz:=dg hz;have q1:ah .eql (.int .i64 1) (.int .i64 1)=some (.bool true):=rfl;have ck:bK 3 (bE 0 (ceL (dH 1 ⟨cx,cy,cz⟩)))=ceL (dH 1 ⟨cx,cy,cz⟩):=rfl;refine Y28 ?_;refine an ?_ (aX (own:=true) (s:=1) rfl ?_ ck rfl rfl) rfl
 ·rw[Heap.aq (by show h.next<=h.next+1;omega)];exact hr.log
 ·exact YG
theorem Pr(hp:aP T)(hf:T 267=some f267){h:Heap}(hr:Rdy h){c:Ce}(hc:InB c):Pu T 267 [ceV c, .int .i64 2] h (ceV (dH 2 c)):=by
 refine .of hp hf hr rfl ?_;obtain⟨cx,cy,cz⟩:=c;obtain⟨hx,hy,hz⟩:=hc;dsimp only at hx hy hz;have mx:=dg hx;have my:=dg hy;have mz:=dg hz;have q1:ah .eql (.int .i64 2) (.int .i64 1)=some (.bool false):=rfl;have q2:ah .eql (.int .i64 2) (.int .i64 2)=some (.bool true):=rfl;have ck:bK 3 (bE 0 (ceL (dH 2 ⟨cx,cy,cz⟩)))=ceL (dH 2 ⟨cx,cy,cz⟩):=rfl;refine Y34 ?_;refine an ?_ (aX (own:=true) (s:=1) rfl ?_ ck rfl rfl) rfl
 ·rw[Heap.aq (by show h.next<=h.next+1;omega)];exact hr.log
 ·exact YG
theorem OF(hp:aP T)(hf:T 267=some f267){h:Heap}(hr:Rdy h){c:Ce}(hc:InB c):Pu T 267 [ceV c, .int .i64 3] h (ceV (dH 3 c)):=by
 refine .of hp hf hr rfl ?_;obtain⟨cx,cy,cz⟩:=c;obtain⟨hx,hy,hz⟩:=hc;dsimp only at hx hy hz;have mx:=dg hx;have my:=dg hy;have mz:=dg hz;have q1:ah .eql (.int .i64 3) (.int .i64 1)=some (.bool false):=rfl;have q2:ah .eql (.int .i64 3) (.int .i64 2)=some (.bool false):=rfl;have q3:ah .eql (.int .i64 3) (.int .i64 3)=some (.bool true):=rfl;have ck:bK 3 (bE 0 (ceL (dH 3 ⟨cx,cy,cz⟩)))=ceL (dH 3 ⟨cx,cy,cz⟩):=rfl;refine Y38 ?_;refine an ?_ (aX (own:=true) (s:=1) rfl ?_ ck rfl rfl) rfl
 ·rw[Heap.aq (by show h.next<=h.next+1;omega)];exact hr.log
 ·exact YG
theorem OM(hp:aP T)(hf:T 267=some f267){h:Heap}(hr:Rdy h){c:Ce}(hc:InB c):Pu T 267 [ceV c, .int .i64 4] h (ceV (dH 4 c)):=by
 refine .of hp hf hr rfl ?_;obtain⟨cx,cy,cz⟩:=c;obtain⟨hx,hy,hz⟩:=hc;dsimp only at hx hy hz;have mx:=dg hx;have my:=dg hy;have mz:=dg hz;have q1:ah .eql (.int .i64 4) (.int .i64 1)=some (.bool false):=rfl;have q2:ah .eql (.int .i64 4) (.int .i64 2)=some (.bool false):=rfl;have q3:ah .eql (.int .i64 4) (.int .i64 3)=some (.bool false):=rfl;have q4:ah .eql (.int .i64 4) (.int .i64 4)=some (.bool true):=rfl;have ck:bK 3 (bE 0 (ceL (dH 4 ⟨cx,cy,cz⟩)))=ceL (dH 4 ⟨cx,cy,cz⟩):=rfl;refine Y40 ?_;refine Y3 ?_;refine an ?_ (aX (own:=true) (s:=1) rfl ?_ ck rfl rfl) rfl
 ·rw[Heap.aq (by show h.next<=h.next+1;omega)];exact hr.log
 ·exact YG
theorem P0(hp:aP T)(hf:T 267=some f267){h:Heap}(hr:Rdy h){c:Ce}(hc:InB c):Pu T 267 [ceV c, .int .i64 5] h (ceV (dH 5 c)):=by
 refine .of hp hf hr rfl ?_;obtain⟨cx,cy,cz⟩:=c;obtain⟨hx,hy,hz⟩:=hc;dsimp only at hx hy hz;have mx:=dg hx;have my:=dg hy;have mz:=dg hz;have q1:ah .eql (.int .i64 5) (.int .i64 1)=some (.bool false):=rfl;have q2:ah .eql (.int .i64 5) (.int .i64 2)=some (.bool false):=rfl;have q3:ah .eql (.int .i64 5) (.int .i64 3)=some (.bool false):=rfl;have q4:ah .eql (.int .i64 5) (.int .i64 4)=some (.bool false):=rfl;have q5:ah .eql (.int .i64 5) (.int .i64 5)=some (.bool true):=rfl;have ck:bK 3 (bE 0 (ceL (dH 5 ⟨cx,cy,cz⟩)))=ceL (dH 5 ⟨cx,cy,cz⟩):=rfl;refine Y40 ?_;refine Y8 ?_;refine an ?_ (aX (own:=true) (s:=1) rfl ?_ ck rfl rfl) rfl
 ·rw[Heap.aq (by show h.next<=h.next+1;omega)];exact hr.log
 ·exact YG
theorem PI(hp:aP T)(hf:T 267=some f267){h:Heap}(hr:Rdy h){c:Ce}(hc:InB c):∀k:Nat,k<6->Pu T 267 [ceV c, .int .i64 (k:Nat)] h (ceV (dH k c))
 |0,_=>PN hp hf hr hc
 |1,_=>OQ hp hf hr hc
 |2,_=>Pr hp hf hr hc
 |3,_=>OF hp hf hr hc
 |4,_=>OM hp hf hr hc
 |5,_=>P0 hp hf hr hc
 |k+6,h=>by omega
theorem Gi(hp:aP T)(hf:T 222=some f222)(hf2:T 267=some f267){h:Heap}(hr:Rdy h){c:Ce}(hc:InB c){t:Nat}(ht:t<24):Pu T 222 [ceV c, .int .i64 (t:Nat)] h (ceV (fB t c)):=by
 refine .of hp hf hr rfl ?_;have x0:Ext h ((h.push (.cells (cellsOf (ceV c)) true 1)).push (.cells [I.O,I.O,I.O] true 1)):=((Ext.refl h).push _).push _;have ga:((h.push (.cells (cellsOf (ceV c)) true 1)).push (.cells [I.O,I.O,I.O] true 1)).get h.next=some (.cells (ceL c) true 1):=(z4 (Nat.lt_succ_self _)).trans (z3 h _)
 have gb:((h.push (.cells (cellsOf (ceV c)) true 1)).push (.cells [I.O,I.O,I.O] true 1)).get (h.next+1)=some (.cells [I.O,I.O,I.O] true 1):=z3 _ _;have n0:((h.push (.cells (cellsOf (ceV c)) true 1)).push (.cells [I.O,I.O,I.O] true 1)).next=h.next+2:=rfl
 refine Y4 ?_;generalize((h.push (.cells (cellsOf (ceV c)) true 1)).push (.cells [I.O,I.O,I.O] true 1))=H at*;have W:=x0.wf hr.wf;have hL:=x0.log.trans hr.log;have hk:t / 4<6:=by omega
 have m1:ah .quo (.int .i64 (t:Nat)) (.int .i64 4)=some (.int .i64 ((t / 4:Nat):Int)):=I8 (by omega);have m2:ah .rem (.int .i64 (t:Nat)) (.int .i64 4)=some (.int .i64 ((t % 4:Nat):Int)):=Ik;have C:=PI hp hf2 (h:={H with log:=[]}) (.of W) hc (t / 4) hk;have hb:=hc.OY (t / 4);have ck:bK 3 (bE 0 (ceL c))=ceL c:=rfl;have ckl:Nat.beq (bO (ceL c)) 3=true:=rfl;have hr4:t % 4<4:=by omega
 unfold fB;generalize hq:dH (t / 4) c=d at*;generalize t / 4=k at*;generalize hrr:t % 4=r at*;refine Y5 ?_;refine FW.pu C ?_;clear C;refine Y7 ?_
 refine bD (λm e ds h'=>∃j:Nat,j<=r/\r-j=m/\e=[(1, .int .i64 (t:Nat)),(2, .pointer (some ⟨h.next,0,none⟩)),(4, .pointer (some ⟨h.next+1,0,none⟩)),(5, .int .i64 (j:Nat))]/\ds=[]/\Ext h h'∧h.next+2<=h'.next/\h'.get h.next=some (.cells (ceL (nC j d)) true 1)/\h'.get (h.next+1)=some (.cells [I.O,I.O,I.O] true 1))
  ⟨0,Nat.zero_le _,rfl,rfl,rfl,⟨x0.next,(Heap.aq (by omega)).trans x0.log,λb hb=>(z5 (by omega)).trans (x0.old b hb),λw=>(x0.wf w).as (AS.wr h.next _ _ _)⟩,by show h.next+2<=H.next;omega,by rw[z6,ga];rfl,(z5 (by omega)).trans gb⟩ ?_
 rintro m e ds h' ⟨j,hj,rfl,rfl,rfl,x,hn,gc,gd⟩;have hbj:=hb.rot j;by_cases hlt:j<r
 ·have hro:nC (j+1) d=Cq (nC j d):=rfl;generalize nC j d=b at*;obtain⟨bx,by',bz⟩:=b;obtain⟨_,hy,_⟩:=hbj;dsimp only at hy;have my:=dg hy;unfold Cq at hro;dsimp only at hro;have mlt:ah .lss (.int .i64 (j:Nat)) (.int .i64 (r:Nat))=some (.bool true):=dz (by omega);refine Y22 ?_;refine cN ?_;refine Y8 ?_;refine⟨r-(j+1),by omega,j+1,by omega,rfl,rfl,rfl,⟨x.next,(Heap.aq (by omega)).trans x.log,λb hb=>(z5 (by omega)).trans (x.old b hb),λw=>(x.wf w).as (AS.wr h.next _ _ _)⟩,hn,?_,(z5 (by omega)).trans gd⟩;rw[z6,gc,hro];rfl
 ·obtain rfl:j=r:=by omega
  generalize nC j d=b at*;have ckb:bK 3 (bE 0 (ceL b))=ceL b:=rfl;have ckbl:Nat.beq (bO (ceL b)) 3=true:=rfl;have mlt:ah .lss (.int .i64 (j:Nat)) (.int .i64 (j:Nat))=some (.bool false):=dA (by omega);refine Y18 ?_;refine an ?_ (aX (own:=true) (s:=1) rfl ?_ ckb ckbl rfl) rfl
  ·rw[Heap.aq (by show h.next<=h.next+1;omega)];exact x.log.trans hr.log
  ·exact YG
structure zb (T:Nat->Option af):Prop where
 cr:ER T
 f137:T 137=some f137
 f139:T 139=some f139
 f221:T 221=some f221
 f222:T 222=some f222
 f223:T 223=some f223
 f224:T 224=some f224
 f267:T 267=some f267
theorem uu(s:List Nat)(n:Int):cA (.tuple #[sv s, .int .i64 n])=true:=by
 have q:flat (sv s)=true:=nE s;show gQ [sv s, .int .i64 n]=true;simp only[gQ,q,cond_true];rfl
theorem dS{α:Type}{l:List α}{j:Nat}{x:α}(h:l[j]? =some x):l.take (j+1)=l.take j++[x]:=by
 rw[List.take_add_one,h];rfl
theorem FZ(F:zb T){h:Heap}(hr:Rdy h){s:List Nat}(hs:IsS s){t:Nat}(ht:t<24):Pu T 137 [sv s, .int .i64 (t:Nat)] h (.tuple #[sv (dw s t), .int .i64 0]):=by
 have hp:=F.cr.hr.p;refine .of hp F.f137 hr (uu _ 0) ?_;have k8:=aG hs.len;have k9:=aN hs.len;have x0:Ext h ((h.push (.cells (cellsOf (sv s)) true 1)).push (.cells (aD 8 (.int .u64 0)) true 1)):=((Ext.refl h).push _).push _;have g0:((h.push (.cells (cellsOf (sv s)) true 1)).push (.cells (aD 8 (.int .u64 0)) true 1)).get h.next=some (.cells (us s) true 1):=YG
 have g1:((h.push (.cells (cellsOf (sv s)) true 1)).push (.cells (aD 8 (.int .u64 0)) true 1)).get (h.next+1)=some (.cells (aD 8 (.int .u64 0)) true 1):=YG;have n0:((h.push (.cells (cellsOf (sv s)) true 1)).push (.cells (aD 8 (.int .u64 0)) true 1)).next=h.next+2:=rfl
 refine Y5 ?_;generalize((h.push (.cells (cellsOf (sv s)) true 1)).push (.cells (aD 8 (.int .u64 0)) true 1))=H at*;have W:=x0.wf hr.wf;have hL:=x0.log.trans hr.log;have m1:ah .lss (.int .i64 (t:Nat)) (.int .i64 0)=some (.bool false):=dA (by omega);have m2:ah .gtr (.int .i64 (t:Nat)) (.int .i64 23)=some (.bool false):=ij (by omega);refine Y14 ?_;refine dI (E0:=[(1, .int .i64 (t:Nat)),(2, .pointer (some ⟨h.next,0,none⟩)),(4, .pointer (some ⟨h.next+1,0,none⟩)),(6, .pointer (some ⟨H.next,0,none⟩))]) (P:=λh'=>Ext H h'∧h'.next=H.next+1/\h'.get H.next=some (.cells (us s0) true 1)) ?_ ?_
 ·refine Y2 ?_;refine cN ?_;refine y1 ?_;exact⟨rfl,rfl,rfl,(Ext.refl H).push _,rfl,YG⟩
 rintro H1 ⟨x1,n1,q1⟩;have ey1':=x0.trans x1;have W1:=ey1'.wf hr.wf;have hL1:=x1.log.trans hL;have ga:=(x1.old _ (by omega)).trans g0;have gb:=(x1.old _ (by omega)).trans g1;have C:=rR F.cr (h:={H1 with log:=[]}) (.of W1) hs;have hin:∀c∈aR s 512,inG c=true:=λc hc=>iD hc;have hle:=iA s 512;unfold dw gp;generalize aR s 512=l at*;clear g0 g1;refine Y3 ?_;refine FW.al C (λv h' m q=>q.log m) ?_;rintro v H2 x2 q;clear C;have ey2':=ey1'.trans x2;have hL2:=x2.log.trans hL1;have n2:=x2.next
 have gb2:=(x2.old _ (by omega)).trans gb;have q12:=(x2.old _ (by omega)).trans q1;obtain⟨a,cc,rfl⟩:=(q.slice (by omega)).form;clear ga gb q1;refine Y7 ?_
 refine bD (λm e ds h'=>∃j:Nat,j<=l.length/\l.length-j=m/\e=[(1, .int .i64 (t:Nat)),(4, .pointer (some ⟨h.next+1,0,none⟩)),(6, .pointer (some ⟨H.next,0,none⟩)),(7, .slice a l.length cc),(8, .int .i64 (j:Nat))]/\ds=[]/\Ext h h'∧H1.next<=h'.next/\h'.get (h.next+1)=some (.cells (aD 8 (.int .u64 0)) true 1)/\h'.get H.next=some (.cells (us (j4 (fB t) (l.take j))) true 1)/\Own H1.next h' 3 (.slice a l.length cc) l.length (ceS l))
  ⟨0,Nat.zero_le _,rfl,rfl,rfl,ey2',n2,gb2,q12,q⟩ ?_
 rintro m e ds h' ⟨j,hj,rfl,rfl,rfl,x,hn,gc,gd,ow⟩;have Wh:=x.wf hr.wf;have hLh:=x.log.trans hr.log;clear gb2 q12 q;by_cases hlt:j<l.length
 ·obtain⟨c,hc⟩:∃c,l[j]? =some c:=⟨l[j]'hlt,List.getElem?_eq_getElem _⟩;have hcl:=hin c (List.mem_of_getElem? hc);obtain⟨b,o,c2,vs,own,tt,hv,gl,hbl,el,_,_,_⟩:=CeQ.elem (ow.slice (by omega)) hc;cases hv;have hO:IsS (j4 (fB t) (l.take j)):=pM λd hd=>lU d (hin d (List.mem_of_mem_take hd));have hs1:j4 (fB t) (l.take (j+1))=kW (j4 (fB t) (l.take j)) (fB t c):=by rw[dS hc,pZ]
  generalize j4 (fB t) (l.take j)=out at*;have C1:=Gi hp F.f222 F.f267 (h:={h' with log:=[]}) (.of Wh) (jK.1 hcl) ht;have hcl2:=lU (t:=t) c hcl;generalize fB t c=d at*;have C2:=EK hp F.f221 (h:={h' with log:=[]}) (.of Wh) hO hcl2;have hO2:=hO.kW hcl2;have k1:=aN hO.len;have k2:=aG hO.len;have k3:=aG hO2.len;have k4:=hO.len;have k5:=hO2.len;have mlt:ah .lss (.int .i64 (j:Nat)) (.int .i64 (l.length:Nat))=some (.bool true):=dz (by omega);refine Y17 ?_;refine aU rfl rfl rfl (by exact rfl) (by exact rfl) (by exact rfl) (cC (by exact rfl) (by assumption) (by assumption) (by exact rfl)) ?_;refine Y2 ?_;refine FW.puD C1 (by(repeat apply aI rfl);apply aM rfl (aC rfl (cC (by exact rfl) (by assumption) (by assumption) (by assumption)) (by exact oV _)) rfl;exact bg) ?_;clear C1;skip;refine qC ?_;refine FW.puD C2 (by apply aI rfl;exact bg) ?_;clear C2;refine iu rfl rfl rfl (by exact rfl) (by exact rfl) (by exact rfl) (by assumption) (by(simp only[aA];assumption)) (by(simp only[aA];assumption)) (by exact bB _) (by omega) (by omega) (by exact bg) ?_;refine mw ?_;refine y1 ?_;refine Ip ?_;refine uh ?_;refine Y5 ?_;refine⟨l.length-(j+1),by omega,j+1,by omega,rfl,rfl,rfl,⟨x.next,(Heap.aq (by omega)).trans x.log,λb hb=>(z5 (by omega)).trans (x.old b hb),λw=>(x.wf w).as (AS.wr h.next _ _ _)⟩,hn,(z5 (by omega)).trans gc,?_,ow.keep (Nat.le_refl _) λz hz _=>z5 (by omega)⟩;rw[hs1];(simp(disch:=first|omega|(simp only[z1,z2];omega))only[z3,z4,z5,z6,z7,z1,z2,gc,gl,gd];done)
 ·obtain rfl:j=l.length:=by omega
  rw[List.take_length]at gd;have hO:IsS (j4 (fB t) l):=pM λd hd=>lU d (hin d hd);generalize j4 (fB t) l=out at*;have k1:=aN hO.len;have k2:=aG hO.len;have k3:=hO.len;have mlt:ah .lss (.int .i64 (l.length:Nat)) (.int .i64 (l.length:Nat))=some (.bool false):=dA (by omega);refine Y7 ?_;refine yX ?_;refine Ag ?_;refine Cy ?_;refine Cy ?_;refine Hl ?_;refine uh ?_;refine y4 ?_;refine yV ?_;refine aB (aO (by exact rfl) (by exact rfl) (by assumption) (by(simp only[aA];assumption)) (by exact rfl) (by exact bB _)) ?_;refine Y3 ?_;refine an ?_ (aX (own:=true) (s:=1) rfl ?_ k1 k2 rfl) rfl
  ·rw[Heap.aq (by show h.next<=h.next+1;omega)];exact hLh
  ·exact YG
def shC(x y z:Int)(c:Ce):Ce:=⟨c.x+x,c.y+y,c.z+z⟩
def Sh7(n:Int):Prop:= -7<=n/\n<=7
theorem uR(hp:aP T)(hf:T 223=some f223){h:Heap}(hr:Rdy h){n:Int}(hn:Sh7 n):Pu T 223 [.int .i64 n] h (.bool true):=by
 refine .of hp hf hr rfl ?_;have m1:ah .geq (.int .i64 n) (.int .i64 (-7))=some (.bool true):=zk hn.1;have m2:ah .leq (.int .i64 n) (.int .i64 7)=some (.bool true):=kN hn.2;refine Y15 ?_;exact an hr.log rfl rfl
theorem Js(hp:aP T)(hf:T 224=some f224){h:Heap}(hr:Rdy h){c:Ce}(hc:InB c){x y z:Int}(hx:Sh7 x)(hy:Sh7 y)(hz:Sh7 z):Pu T 224 [ceV c, .int .i64 x, .int .i64 y, .int .i64 z] h (ceV (shC x y z c)):=by
 refine .of hp hf hr rfl ?_;obtain⟨cx,cy,cz⟩:=c;obtain⟨kx,ky,kz⟩:=hc;obtain⟨hx1,hx2⟩:=hx;obtain⟨hy1,hy2⟩:=hy;obtain⟨hz1,hz2⟩:=hz;dsimp only at kx ky kz;have mx:=lR (k:= .i64) (a:=cx) (b:=x) (bZ (by omega) (by omega));have my:=lR (k:= .i64) (a:=cy) (b:=y) (bZ (by omega) (by omega));have mz:=lR (k:= .i64) (a:=cz) (b:=z) (bZ (by omega) (by omega));have ck:bK 3 (bE 0 (ceL (shC x y z ⟨cx,cy,cz⟩)))=ceL (shC x y z ⟨cx,cy,cz⟩):=rfl;refine Y21 ?_;refine an ?_ (aX (own:=true) (s:=1) rfl ?_ ck rfl rfl) rfl
 ·rw[Heap.aq (by show h.next<=h.next+1;omega)];exact hr.log
 ·exact YG
theorem Ck(F:zb T)(hg:T 225=some f225){h:Heap}(hr:Rdy h){s:List Nat}(hs:IsS s){x y z:Int}(hx:Sh7 x)(hy:Sh7 y)(hz:Sh7 z)(hall:∀c∈aR s 512,inG (shC x y z c)=true):Pu T 139 [sv s, .int .i64 x, .int .i64 y, .int .i64 z] h (.tuple #[sv (gp (shC x y z) s), .int .i64 0]):=by
 have hp:=F.cr.hr.p;refine .of hp F.f139 hr (uu _ 0) ?_;have k8:=aG hs.len;have k9:=aN hs.len;have x0:Ext h ((h.push (.cells (cellsOf (sv s)) true 1)).push (.cells (aD 8 (.int .u64 0)) true 1)):=((Ext.refl h).push _).push _;have g0:((h.push (.cells (cellsOf (sv s)) true 1)).push (.cells (aD 8 (.int .u64 0)) true 1)).get h.next=some (.cells (us s) true 1):=YG
 have g1:((h.push (.cells (cellsOf (sv s)) true 1)).push (.cells (aD 8 (.int .u64 0)) true 1)).get (h.next+1)=some (.cells (aD 8 (.int .u64 0)) true 1):=YG;have n0:((h.push (.cells (cellsOf (sv s)) true 1)).push (.cells (aD 8 (.int .u64 0)) true 1)).next=h.next+2:=rfl
 refine Y5 ?_;generalize((h.push (.cells (cellsOf (sv s)) true 1)).push (.cells (aD 8 (.int .u64 0)) true 1))=H at*;have W:=x0.wf hr.wf;have hL:=x0.log.trans hr.log;have C:=rR F.cr (h:={H with log:=[]}) (.of W) hs;have hin:∀c∈aR s 512,inG c=true:=λc hc=>iD hc;have hle:=iA s 512;unfold gp;generalize aR s 512=l at*;refine Y3 ?_;refine FW.al C (λv h' m q=>q.log m) ?_;rintro v H2 x2 q;clear C;have ey2':=x0.trans x2;have W2:=ey2'.wf hr.wf;have hL2:=x2.log.trans hL;have n2:=x2.next
 have gb2:=(x2.old _ (by omega)).trans g1;obtain⟨a,cc,rfl⟩:=(q.slice (by omega)).form;have C1:=uR hp F.f223 (h:={H2 with log:=[]}) (.of W2) hx;have C2:=uR hp F.f223 (h:={H2 with log:=[]}) (.of W2) hy;have C3:=uR hp F.f223 (h:={H2 with log:=[]}) (.of W2) hz;clear g0 g1;refine Y2 ?_;refine dI (E0:=[(1, .int .i64 x),(2, .int .i64 y),(3, .int .i64 z),(8, .pointer (some ⟨h.next+1,0,none⟩)),(10, .slice a l.length cc),(33, .bool false)]) (P:=λh'=>H2=h') ?_ ?_
 ·by_cases hl:l.length=0
  ·have m1:ah .gtr (.int .i64 (l.length:Nat)) (.int .i64 0)=some (.bool false):=ij (by omega);refine Y9 ?_;refine ng (by exact rfl) ?_;refine ng (by exact rfl) ?_;refine ng (by exact rfl) ?_;refine Y2 ?_;refine ng (by exact rfl) ?_;refine ng (by exact rfl) ?_;refine ng (by exact rfl) ?_;refine Y5 ?_;exact⟨rfl,rfl,rfl,rfl⟩
  ·have m1:ah .gtr (.int .i64 (l.length:Nat)) (.int .i64 0)=some (.bool true):=ic (by omega);refine Y9 ?_;refine FW.pu C1 ?_;refine Y8 ?_;refine FW.pu C2 ?_;refine Y10 ?_;refine FW.pu C3 ?_;refine Y8 ?_;exact⟨rfl,rfl,rfl,rfl⟩
 rintro _ rfl;clear C1 C2 C3;have x3:Ext H2 (H2.push (.cells (aD 8 (.int .u64 0)) true 1)):=(Ext.refl H2).push _;have q3:(H2.push (.cells (aD 8 (.int .u64 0)) true 1)).get H2.next=some (.cells (us s0) true 1):=z3 _ _
 have n3:(H2.push (.cells (aD 8 (.int .u64 0)) true 1)).next=H2.next+1:=rfl
 refine Y3 ?_;generalize(H2.push (.cells (aD 8 (.int .u64 0)) true 1))=H3 at*;refine Y5 ?_
 refine bD (λm e ds h'=>∃j:Nat,j<=l.length/\l.length-j=m/\e=[(1, .int .i64 x),(2, .int .i64 y),(3, .int .i64 z),(8, .pointer (some ⟨h.next+1,0,none⟩)),(10, .slice a l.length cc),(11, .pointer (some ⟨H2.next,0,none⟩)),(12, .int .i64 (j:Nat))]/\ds=[]/\Ext H2 h'∧H2.next<h'.next/\h'.get H2.next=some (.cells (us (j4 (shC x y z) (l.take j))) true 1))
  ⟨0,Nat.zero_le _,rfl,rfl,rfl,x3,by omega,q3⟩ ?_
 rintro m e ds h' ⟨j,hj,rfl,rfl,rfl,xx,hn,gd⟩;have ey:=ey2'.trans xx;have Wh:=ey.wf hr.wf;have hLh:=ey.log.trans hr.log;have gc:=(xx.old _ (by omega)).trans gb2;clear q3 x3;by_cases hlt:j<l.length
 ·obtain⟨c,hc⟩:∃c,l[j]? =some c:=⟨l[j]'hlt,List.getElem?_eq_getElem _⟩;have hcm:=List.mem_of_getElem? hc;have hcl:=hin c hcm;have hcl2:=hall c hcm;obtain⟨b,o,c2,vs,own,tt,hv,gl,hbl,el,_,_,_⟩:=CeQ.elem ((q.slice (by omega)).ext xx) hc;cases hv;have hO:IsS (j4 (shC x y z) (l.take j)):=pM λd hd=>hall d (List.mem_of_mem_take hd);have hs1:j4 (shC x y z) (l.take (j+1))=kW (j4 (shC x y z) (l.take j)) (shC x y z c):=by rw[dS hc,pZ]
  generalize j4 (shC x y z) (l.take j)=out at*;have C1:=Js hp F.f224 (h:={h' with log:=[]}) (.of Wh) (jK.1 hcl) hx hy hz;generalize shC x y z c=d at*;have k1:=aN hO.len;have k2:=aG hO.len;have k4:=hO.len;have mlt:ah .lss (.int .i64 (j:Nat)) (.int .i64 (l.length:Nat))=some (.bool true):=dz (by omega);refine Y12 ?_;refine dI (E0:=[(1, .int .i64 x),(2, .int .i64 y),(3, .int .i64 z),(8, .pointer (some ⟨h.next+1,0,none⟩)),(10, .slice (some ⟨b,o,none⟩) l.length cc),(11, .pointer (some ⟨H2.next,0,none⟩)),(12, .int .i64 (j:Nat)),(13, .pointer (some ⟨h'.next,0,none⟩))]) (P:=λh4=>Ext h' h4/\h4.next=h'.next+1/\h4.get h'.next=some (.cells (ceL d) true 1)) ?_ ?_
  ·refine Y4 ?_;refine aB (cC (by exact rfl) (by assumption) (by assumption) (by exact rfl)) ?_;refine Y4 ?_;refine FW.pu C1 ?_;clear C1;refine Y2 ?_;refine cN ?_;refine y1 ?_;exact⟨rfl,rfl,rfl,dO (by omega) _ _,rfl,fC _ _⟩
  rintro H4 ⟨x4,n4,g4⟩;clear C1;have W4:=x4.wf Wh;have L4:=x4.log.trans hLh;have gd4:=(x4.old _ (by omega)).trans gd;have C2:=yq hp hg (h:={H4 with log:=[]}) (.of W4) d;rw[hcl2]at C2;have C3:=EK hp F.f221 (h:={H4 with log:=[]}) (.of W4) hO hcl2;have hO2:=hO.kW hcl2;have k3:=aG hO2.len;have k5:=hO2.len;have ck:bK 3 (bE 0 (ceL d))=ceL d:=rfl;have ckl:Nat.beq (bO (ceL d)) 3=true:=rfl;clear gd gl;refine Y4 ?_;refine FW.pu C2 ?_;clear C2;refine Y9 ?_;refine FW.pu C3 ?_;clear C3;refine aB (aO (by exact rfl) (by exact rfl) (by assumption) (by(simp only[aA];assumption)) (by(simp only[aA];assumption)) (by exact bB _)) ?_;refine cN ?_;refine y1 ?_;refine Ip ?_;refine uh ?_;refine pQ ?_;refine yM ?_;refine Y3 ?_;have xx4:=xx.trans x4;refine⟨l.length-(j+1),by omega,j+1,by omega,rfl,rfl,rfl,⟨xx4.next,(Heap.aq (by omega)).trans xx4.log,λb hb=>(z5 (by omega)).trans (xx4.old b hb),λw=>(xx4.wf w).as (AS.wr h.next _ _ _)⟩,by show H2.next<H4.next;omega,?_⟩;rw[hs1];(simp(disch:=first|omega|(simp only[z1,z2];omega))only[z3,z4,z5,z6,z7,z1,z2,gb2,gc,g4,gd4];done)
 ·obtain rfl:j=l.length:=by omega
  rw[List.take_length]at gd;have hO:IsS (j4 (shC x y z) l):=pM λd hd=>hall d hd;generalize j4 (shC x y z) l=out at*;have k1:=aN hO.len;have k2:=aG hO.len;have k3:=hO.len;have mlt:ah .lss (.int .i64 (l.length:Nat)) (.int .i64 (l.length:Nat))=some (.bool false):=dA (by omega);refine Y7 ?_;refine yX ?_;refine Ag ?_;refine Cy ?_;refine Cy ?_;refine Hl ?_;refine uh ?_;refine y4 ?_;refine yV ?_;refine aB (aO (by exact rfl) (by exact rfl) (by assumption) (by(simp only[aA];assumption)) (by exact rfl) (by exact bB _)) ?_;refine Y3 ?_;refine an ?_ (aX (own:=true) (s:=1) rfl ?_ k1 k2 rfl) rfl
  ·rw[Heap.aq (by show h.next<=h.next+1;omega)];exact hLh
  ·exact YG
theorem yc{s:List Nat}(hs:IsS s)(h:aR s 512=[]):s=s0:=by
 refine uv hs qU λz i hz hi=> ?_;rw[lQ];cases hc:dN s (dY z i)with
 |false=>rfl
 |true=>
  have:dY z i∈aR s 512:=List.mem_filter.2 ⟨List.mem_map.2 ⟨z*64+i,List.mem_range.2 (by omega),zn hi⟩,hc⟩;rw[h]at this;cases this
theorem GJ:aR s0 512=[]:=by
 rw[aR,List.filter_eq_nil_iff];intro c _;rw[lQ];simp
theorem K7{c:Ce}(hc:InB c):nW ⟨c,c⟩ c=nW bx0 c:=by
 obtain⟨cx,cy,cz⟩:=c;obtain⟨hx,hy,hz⟩:=hc;dsimp only at hx hy hz;unfold nW bx0 mi mx;dsimp only;congr 1<;>congr 1<;>(repeat' split)<;>omega
theorem GC{c:Ce}(hc:InB c)(l:List Ce):(c::l).foldl nW ⟨c,c⟩=bxS (c::l):=by
 unfold bxS;rw[List.foldl_cons,List.foldl_cons,K7 hc]
theorem yQ(F:zb T)(hf:T 138=some f138){h:Heap}(hr:Rdy h){s:List Nat}(hs:IsS s):Pu T 138 [sv s] h (Ff (bL s)):=by
 have hp:=F.cr.hr.p;refine .of hp hf hr rfl ?_;have k8:=aG hs.len;have k9:=aN hs.len;have x0:Ext h ((h.push (.cells (cellsOf (sv s)) true 1)).push (.cells [I.O,I.O,I.O,I.O,I.O,I.O] true 1)):=((Ext.refl h).push _).push _;have g0:((h.push (.cells (cellsOf (sv s)) true 1)).push (.cells [I.O,I.O,I.O,I.O,I.O,I.O] true 1)).get h.next=some (.cells (us s) true 1):=(z4 (Nat.lt_succ_self _)).trans (z3 h _)
 have g1:((h.push (.cells (cellsOf (sv s)) true 1)).push (.cells [I.O,I.O,I.O,I.O,I.O,I.O] true 1)).get (h.next+1)=some (.cells [I.O,I.O,I.O,I.O,I.O,I.O] true 1):=z3 _ _;have n0:((h.push (.cells (cellsOf (sv s)) true 1)).push (.cells [I.O,I.O,I.O,I.O,I.O,I.O] true 1)).next=h.next+2:=rfl
 refine Y5 ?_;generalize((h.push (.cells (cellsOf (sv s)) true 1)).push (.cells [I.O,I.O,I.O,I.O,I.O,I.O] true 1))=H at*;have W:=x0.wf hr.wf;have hL:=x0.log.trans hr.log;have C:=rR F.cr (h:={H with log:=[]}) (.of W) hs;have hin:∀c∈aR s 512,inG c=true:=λc hc=>iD hc;have hle:=iA s 512;have hnil:aR s 512=[]↔s=s0:=⟨yc hs,λe=>by rw[e];exact GJ⟩;have hbn:bL s=if aR s 512=[]then(⟨c0,c0⟩,false)else(bxS (aR s 512),true):=by
  unfold bL;by_cases e:s=s0
  ·rw[if_pos e,if_pos (hnil.2 e)]
  ·rw[if_neg e,if_neg (λq=>e (hnil.1 q))]
 rw[hbn];generalize aR s 512=l at*;refine Y3 ?_;refine FW.al C (λv h' m q=>q.log m) ?_;rintro v H2 x2 q;clear C;have ey2':=x0.trans x2;have W2:=ey2'.wf hr.wf;have hL2:=x2.log.trans hL;have n2:=x2.next
 have gb2:=(x2.old _ (by omega)).trans g1;clear g0 g1;cases l with
 |nil=>
  obtain rfl:v= .slice none 0 0:=by
   cases q with
   |nil=>rfl
   |full a b c d e=>exact absurd rfl e
  rw[if_pos rfl];have ck0:bK 6 (bE 0 (bxL ⟨c0,c0⟩))=bxL ⟨c0,c0⟩:=rfl;refine Y16 ?_;refine an ?_ (aX (own:=true) (s:=1) (l:=bxL ⟨c0,c0⟩) rfl ?_ ck0 rfl rfl) rfl
  ·rw[Heap.aq (by show h.next<=h.next+1;omega)];exact hL2
  ·exact YG
 |cons d r=>
  rw[if_neg (by simp)];have hd:=jK.1 (hin d List.mem_cons_self);rw[←GC hd r];have qs:=q.slice (by omega);obtain⟨b,o,cc,vs,own,tt,rfl,gl,hbl,el,_,_,_⟩:=CeQ.elem (i:=0) (x:=d) qs rfl;clear q;generalize hl:d::r=l at*;have hl0:0<l.length:=by rw[←hl];simp
  clear hl;have m0:ah .eql (.int .i64 (l.length:Nat)) (.int .i64 0)=some (.bool false):=mg (by omega);have x5:=dO (h:=H2) (base:=h.next) (by omega) (.cells [I.O,I.O,I.O,I.O,I.O,I.O] true 1) (.cells (bxL ⟨d,d⟩) true 1);have g5:=fC (h:=H2) (base:=h.next) [I.O,I.O,I.O,I.O,I.O,I.O] (bxL ⟨d,d⟩);have ckb:bK 6 (bE 0 (bxL ⟨d,d⟩))=bxL ⟨d,d⟩:=rfl;refine Y11 ?_;refine dI (E0:=[(2, .pointer (some ⟨h.next+1,0,none⟩)),(4, .slice (some ⟨b,o,none⟩) l.length cc),(5, .pointer (some ⟨H2.next,0,none⟩))]) (P:=λh'=>Ext H2 h'∧H2.next<h'.next/\h'.get H2.next=some (.cells (bxL ⟨d,d⟩) true 1)) ?_ ?_
  ·refine Y3 ?_;refine aU rfl rfl rfl (by exact rfl) (by exact rfl) (by exact rfl) (cC (by exact rfl) (by assumption) (by assumption) (by exact rfl)) ?_;refine Y2 ?_;refine aU rfl rfl rfl (by exact rfl) (by exact rfl) (by exact rfl) (cC (by exact rfl) (by assumption) (by assumption) (by exact rfl)) ?_;refine aU rfl rfl rfl (by exact rfl) (by exact rfl) (by exact rfl) (nh (by exact rfl)) ?_;refine sO rfl rfl rfl (by exact rfl) (by exact rfl) (by exact rfl) tR (by refine cZ (aC rfl (nh (by exact rfl)) (by refine lD ?_;refine dD (dW _ _) ?_;refine dD (dW _ _) ?_;refine dD (dW _ _) ?_;refine dD (dW _ _) ?_;refine dD (dW _ _) ?_;refine dD (dW _ _) ?_;exact zZ)) ?_;refine cZ (aC rfl (cC (by exact rfl) YG (by assumption) (by exact rfl)) (by refine lD ?_;refine dD (dW _ _) ?_;refine dD (dW _ _) ?_;refine dD (dW _ _) ?_;exact zZ)) ?_;refine cZ (aC rfl (mK (by exact rfl) (by exact rfl) (by omega)) (by exact cW _)) ?_;refine cZ (aC rfl (fR (by exact rfl)) (by exact fO _ _ _)) ?_;refine cZ (aC rfl (cC (by exact rfl) YG (by assumption) (by exact rfl)) (by refine lD ?_;refine dD (dW _ _) ?_;refine dD (dW _ _) ?_;refine dD (dW _ _) ?_;exact zZ)) ?_;refine cZ (aC rfl (mK (by exact rfl) (by exact rfl) (by omega)) (by exact cW _)) ?_;refine cZ (aC rfl (fR (by exact rfl)) (by exact fO _ _ _)) ?_;exact tE) ?_;refine iO rfl rfl rfl (by exact rfl) (by exact rfl) (by exact rfl) YG (by exact rfl) (by exact rfl) (by(simp only[z1,z2];omega)) (by omega) (by(repeat apply aI rfl);exact bg) ?_;refine Y2 ?_;exact⟨rfl,rfl,rfl,x5,Nat.lt_succ_self _,g5⟩
  clear x5 g5;rintro H5 ⟨x5,n5,g5⟩;clear gl el;refine Y5 ?_
  refine bD (λm e ds h'=>∃j:Nat,j<=l.length/\l.length-j=m/\e=[(2, .pointer (some ⟨h.next+1,0,none⟩)),(4, .slice (some ⟨b,o,none⟩) l.length cc),(5, .pointer (some ⟨H2.next,0,none⟩)),(6, .int .i64 (j:Nat))]/\ds=[]/\Ext H2 h'∧H2.next<h'.next/\h'.get H2.next=some (.cells (bxL ((l.take j).foldl nW ⟨d,d⟩)) true 1))
   ⟨0,Nat.zero_le _,rfl,rfl,rfl,x5,n5,g5⟩ ?_
  rintro m e ds h' ⟨j,hj,rfl,rfl,rfl,xx,hn,gd⟩;have ey:=ey2'.trans xx;have Wh:=ey.wf hr.wf;have hLh:=ey.log.trans hr.log;have gc:=(xx.old _ (by omega)).trans gb2;clear g5 x5 n5;by_cases hlt:j<l.length
  ·obtain⟨c,hc⟩:∃c,l[j]? =some c:=⟨l[j]'hlt,List.getElem?_eq_getElem _⟩;obtain⟨b',o',c2,vs',own',tt',hv,gl,_,el,e1,e2,e3⟩:=CeQ.elem (qs.ext xx) hc;cases hv;have hs1:(l.take (j+1)).foldl nW ⟨d,d⟩=nW ((l.take j).foldl nW ⟨d,d⟩) c:=by rw[dS hc,List.foldl_append];rfl
   generalize(l.take j).foldl nW ⟨d,d⟩=bb at*;have mlt:ah .lss (.int .i64 (j:Nat)) (.int .i64 (l.length:Nat))=some (.bool true):=dz (by omega);have hbq:b<H2.next:=hbl
   obtain⟨⟨x1,ey1,z1q⟩,⟨x2q,eyy2,z2q⟩⟩:=bb;obtain⟨cx,cy,cz⟩:=c;dsimp only at e1 e2 e3;unfold bxL ceL at gd;dsimp only[List.cons_append,List.nil_append]at gd;clear gc;refine Y22 ?_;refine aU rfl rfl rfl (by exact rfl) (by exact rfl) (by exact rfl) (nj (by exact rfl) (by exact rfl)) ?_;refine Y2 ?_;refine iO rfl rfl rfl (by exact rfl) (by exact rfl) (by exact rfl) (by assumption) (by exact rfl) (by exact rfl) (by omega) (by omega) (by(repeat apply aI rfl);exact bg) ?_;refine mw ?_;refine Y11 ?_;refine aU rfl rfl rfl (by exact rfl) (by exact rfl) (by exact rfl) (eT (by exact rfl) YG (by assumption)) ?_;refine aU rfl rfl rfl (by exact rfl) (by exact rfl) (by exact rfl) (nj (by exact rfl) (by exact rfl)) ?_;refine Y2 ?_;refine iO rfl rfl rfl (by exact rfl) (by exact rfl) (by exact rfl) YG (by exact rfl) (by exact rfl) (by(simp only[z1,z2];omega)) (by omega) (by(repeat apply aI rfl);exact bg) ?_;refine Y12 ?_;refine aU rfl rfl rfl (by exact rfl) (by exact rfl) (by exact rfl) (eT (by exact rfl) YG (by assumption)) ?_;refine aU rfl rfl rfl (by exact rfl) (by exact rfl) (by exact rfl) (nj (by exact rfl) (by exact rfl)) ?_;refine Y2 ?_;refine iO rfl rfl rfl (by exact rfl) (by exact rfl) (by exact rfl) YG (by exact rfl) (by exact rfl) (by(simp only[z1,z2];omega)) (by omega) (by(repeat apply aI rfl);exact bg) ?_;refine Y12 ?_;refine aU rfl rfl rfl (by exact rfl) (by exact rfl) (by exact rfl) (eT (by exact rfl) YG (by assumption)) ?_;refine aU rfl rfl rfl (by exact rfl) (by exact rfl) (by exact rfl) (rV (by exact rfl) (by exact rfl)) ?_;refine Y2 ?_;refine iO rfl rfl rfl (by exact rfl) (by exact rfl) (by exact rfl) YG (by exact rfl) (by exact rfl) (by(simp only[z1,z2];omega)) (by omega) (by(repeat apply aI rfl);exact bg) ?_;refine Y12 ?_;refine aU rfl rfl rfl (by exact rfl) (by exact rfl) (by exact rfl) (eT (by exact rfl) YG (by assumption)) ?_;refine aU rfl rfl rfl (by exact rfl) (by exact rfl) (by exact rfl) (rV (by exact rfl) (by exact rfl)) ?_;refine Y2 ?_;refine iO rfl rfl rfl (by exact rfl) (by exact rfl) (by exact rfl) YG (by exact rfl) (by exact rfl) (by(simp only[z1,z2];omega)) (by omega) (by(repeat apply aI rfl);exact bg) ?_;refine Y11 ?_;refine aU rfl rfl rfl (by exact rfl) (by exact rfl) (by exact rfl) (eT (by exact rfl) YG (by assumption)) ?_;refine aU rfl rfl rfl (by exact rfl) (by exact rfl) (by exact rfl) (rV (by exact rfl) (by exact rfl)) ?_;refine Y2 ?_;refine iO rfl rfl rfl (by exact rfl) (by exact rfl) (by exact rfl) YG (by exact rfl) (by exact rfl) (by(simp only[z1,z2];omega)) (by omega) (by(repeat apply aI rfl);exact bg) ?_;refine Y9 ?_;refine⟨l.length-(j+1),by omega,j+1,by omega,rfl,rfl,rfl,⟨xx.next,?_,λz hz=> ?_,λw=> ?_⟩,hn,?_⟩
   ·rw[Heap.aq (by omega),Heap.aq (by omega),Heap.aq (by omega),Heap.aq (by omega),Heap.aq (by omega),Heap.aq (by omega)];exact xx.log
   ·simp only[z5 (show z≠H2.next by omega)];exact xx.old z hz
   ·exact((((((xx.wf w).as (AS.wr h.next _ _ _)).as (AS.wr h.next _ _ _)).as (AS.wr h.next _ _ _)).as (AS.wr h.next _ _ _)).as (AS.wr h.next _ _ _)).as (AS.wr h.next _ _ _)
   ·rw[hs1];exact(Heap.bC (Heap.bC (Heap.bC (Heap.bC (Heap.bC (Heap.bC (gd))))))).trans rfl
  ·obtain rfl:j=l.length:=by omega
   rw[List.take_length]at gd;generalize l.foldl nW ⟨d,d⟩=bb at*;have ck:bK 6 (bE 0 (bxL bb))=bxL bb:=rfl;have ckl:Nat.beq (bO (bxL bb)) 6=true:=rfl;have mlt:ah .lss (.int .i64 (l.length:Nat)) (.int .i64 (l.length:Nat))=some (.bool false):=dA (by omega);refine Y19 ?_;refine an ?_ (aX (own:=true) (s:=1) (l:=bxL bb) rfl ?_ ck ckl rfl) rfl
   ·rw[Heap.aq (by show h.next<=h.next+1;omega)];exact hLh
   ·exact YG
end Go.A.Pk
end
section
namespace Go.A.Pk
theorem AO{z i z' i':Nat}(h:dY z i=dY z' i'):z=z'∧i=i':=by
 unfold dY at h;injection h with h1 h2 h3
 omega
theorem Mn{o:List Nat}(ho:IsS o){d:Ce}(hd:inG d=true)(c:Ce):dN (kW o d) c=(dN o c||decide (c=d)):=by
 by_cases hc:inG c=true
 ·obtain⟨z,i,hz,hi,rfl⟩:=gP hc;obtain⟨m,j,hm,hj,rfl⟩:=gP hd;rw[eS hz hi,eS hz hi,uC o hj];by_cases e:m=z
  ·subst e;have e1:(o.set m (Nat.lor (o.getD m 0) (2 ^ j))).getD m 0=Nat.lor (o.getD m 0) (2 ^ j):=by
    rw[List.getD_eq_getElem?_getD,List.getElem?_set_self (by rw[ho.len];exact hm)];rfl
   rw[e1];show Nat.testBit (o.getD m 0|||2 ^ j) i=_;rw[Nat.testBit_or,Nat.testBit_two_pow];congr 1;by_cases e2:j=i
   ·subst e2;simp
   ·rw[decide_eq_false e2,decide_eq_false (λq=>e2 (AO q).2.symm)]
  ·have e1:(o.set m (Nat.lor (o.getD m 0) (2 ^ j))).getD z 0=o.getD z 0:=by
    rw[List.getD_eq_getElem?_getD,List.getElem?_set_ne e,←List.getD_eq_getElem?_getD]
   rw[e1,decide_eq_false (λq=>e (AO q).1.symm),Bool.or_false]
 ·rw[fJ hc,fJ hc,decide_eq_false (λ(q:c=d)=>hc (by rw[q];exact hd))];rfl
theorem JO{f:Ce->Ce}(c:Ce):∀{l:List Ce},(∀x∈l,inG (f x)=true)->(dN (j4 f l) c=true↔ ∃x∈l,f x=c):=by
 intro l;have:∀(l:List Ce) (o:List Nat),IsS o->(∀x∈l,inG (f x)=true)->(dN (l.foldl (λo c=>kW o (f c)) o) c=true↔dN o c=true∨∃x∈l,f x=c):=by
  intro l;induction l with
  |nil=>intro o _ _;simp
  |cons d l ih=>
   intro o ho hl;rw[List.foldl_cons,ih _ (ho.kW (hl d List.mem_cons_self)) λx hx=>hl x (List.mem_cons_of_mem _ hx),Mn ho (hl d List.mem_cons_self),Bool.or_eq_true,decide_eq_true_eq];constructor
   ·rintro((h|h)|⟨x,hx,h⟩)
    ·exact .inl h
    ·exact .inr ⟨d,List.mem_cons_self,h.symm⟩
    ·exact .inr ⟨x,List.mem_cons_of_mem _ hx,h⟩
   ·rintro(h|⟨x,hx,h⟩)
    ·exact .inl (.inl h)
    ·rcases List.mem_cons.1 hx with rfl|hx
     ·exact .inl (.inr h.symm)
     ·exact .inr ⟨x,hx,h⟩
 intro hl;have e:=this l s0 qU hl;rw[lQ]at e;simpa[j4]using e
theorem dx{s:List Nat}{c:Ce}:c∈aR s 512↔dN s c=true:=by
 constructor
 ·intro h;exact(List.mem_filter.1 h).2
 ·intro h;have hc:inG c=true:=by
   cases hq:inG c with
   |true=>rfl
   |false=>rw[fJ (by rw[hq];simp)]at h;cases h
  obtain⟨z,i,hz,hi,rfl⟩:=gP hc;exact List.mem_filter.2 ⟨HZ hz hi,h⟩
theorem iS{f:Ce->Ce}{s:List Nat}(h:∀x∈aR s 512,inG (f x)=true)(c:Ce):dN (gp f s) c=true↔ ∃x,dN s x=true/\f x=c:=by
 unfold gp;rw[JO c h];constructor
 ·rintro⟨x,hx,e⟩;exact⟨x,dx.1 hx,e⟩
 ·rintro⟨x,hx,e⟩;exact⟨x,dx.2 hx,e⟩
theorem Nb{p:Nat}{k:Int}{i:Nat}(hi:i<64):Nat.testBit (shP p k) i=(decide (0<=(i:Int)-k)&&Nat.testBit p ((i:Int)-k).toNat):=by
 unfold shP;split
 ·rename_i h;show Nat.testBit ((p<<<k.toNat) % 2 ^ 64) i=_;rw[Nat.testBit_mod_two_pow,decide_eq_true hi,Bool.true_and,Nat.testBit_shiftLeft];by_cases hk:k.toNat<=i
  ·rw[decide_eq_true (show i≥k.toNat from hk),decide_eq_true (show 0<=(i:Int)-k by omega),show((i:Int)-k).toNat=i-k.toNat by omega]
  ·rw[decide_eq_false (show¬i≥k.toNat from hk),decide_eq_false (show¬0<=(i:Int)-k by omega)];rfl
 ·rename_i h;show Nat.testBit (p>>>(-k).toNat) i=_;rw[Nat.testBit_shiftRight,decide_eq_true (show 0<=(i:Int)-k by omega),show((i:Int)-k).toNat=(-k).toNat+i by omega];rfl
theorem wS{s:List Nat}(hs:IsS s){a:Nat}{z k:Int}:∀{n:Nat},0<=(a:Int)+z->(a:Int)+z+(n:Nat)<=8->∀m:Nat,m<8→
 (jU s a z k n).getD m 0=if(a:Int)+z<=(m:Int)/\(m:Int)<(a:Int)+z+(n:Nat)then shP (s.getD ((m:Int)-z).toNat 0) k else 0
 |0,_,_,m,hm=>by
  rw[if_neg (by omega)];have:∀z:Fin 8,s0.getD z.val 0=0:=by decide
  exact this ⟨m,hm⟩
 |n+1,h1,h2,m,hm=>by
  have ih:=wS (k:=k) hs (n:=n) h1 (by omega) m hm;unfold jU;by_cases e:(((a+n:Nat):Int)+z).toNat=m
  ·rw[List.getD_eq_getElem?_getD,e,List.getElem?_set_self (by rw[(mS hs a z k n).len];exact hm),if_pos (by omega)];show shP (s.getD (a+n) 0) k=_;rw[show((m:Int)-z).toNat=a+n by omega]
  ·rw[List.getD_eq_getElem?_getD,List.getElem?_set_ne e,←List.getD_eq_getElem?_getD,ih];by_cases q:(a:Int)+z<=(m:Int)/\(m:Int)<(a:Int)+z+(n:Nat)
   ·rw[if_pos q,if_pos (by omega)]
   ·rw[if_neg q,if_neg (by omega)]
theorem Nl{x i:Nat}(hx:x<U64)(h:x.testBit i=true):i<64:=by
 rcases Nat.lt_or_ge i 64 with hi|hi
 ·exact hi
 ·rw[Nat.testBit_lt_two_pow (Nat.lt_of_lt_of_le hx (show 2 ^ 64<=2 ^ i from Nat.pow_le_pow_right (by omega) hi))]at h;cases h
theorem lI{s:List Nat}{c:Ce}(h:dN s c=true):((bL s).1.lo.x<=c.x/\c.x<=(bL s).1.hi.x)/\((bL s).1.lo.y<=c.y/\c.y<=(bL s).1.hi.y)/\((bL s).1.lo.z<=c.z/\c.z<=(bL s).1.hi.z):=by
 have hc:=dx.2 h;have h0:¬s=s0:=λq=>by rw[q,lQ]at h;cases h
 have e:(bL s).1=bxS (aR s 512):=by unfold bL;rw[if_neg h0]
 rw[e,CM];exact⟨⟨(y7 (·.x) _ 7).2 c hc,(zi (·.x) _ 0).2 c hc⟩,⟨(y7 (·.y) _ 7).2 c hc,(zi (·.y) _ 0).2 c hc⟩,⟨(y7 (·.z) _ 7).2 c hc,(zi (·.z) _ 0).2 c hc⟩⟩
theorem OX{s:List Nat}(h0:¬s=s0){x y z:Int}(hx:x<=7)(hy:y<=7)(hz:z<=7)(h:∀c,dN s c=true->x<=c.x/\y<=c.y/\z<=c.z):x<=(bL s).1.lo.x/\y<=(bL s).1.lo.y/\z<=(bL s).1.lo.z:=by
 have e:(bL s).1=bxS (aR s 512):=by unfold bL;rw[if_neg h0]
 rw[e,CM];exact⟨AF (·.x) _ 7 hx λc hc=>(h c (dx.1 hc)).1,AF (·.y) _ 7 hy λc hc=>(h c (dx.1 hc)).2.1,AF (·.z) _ 7 hz λc hc=>(h c (dx.1 hc)).2.2⟩
theorem CE{s:List Nat}(h0:¬s=s0){x y z:Int}(hx:0<=x)(hy:0<=y)(hz:0<=z)(h:∀c,dN s c=true->c.x<=x/\c.y<=y/\c.z<=z):(bL s).1.hi.x<=x/\(bL s).1.hi.y<=y/\(bL s).1.hi.z<=z:=by
 have e:(bL s).1=bxS (aR s 512):=by unfold bL;rw[if_neg h0]
 rw[e,CM];exact⟨zG (·.x) _ 0 hx λc hc=>(h c (dx.1 hc)).1,zG (·.y) _ 0 hy λc hc=>(h c (dx.1 hc)).2.1,zG (·.z) _ 0 hz λc hc=>(h c (dx.1 hc)).2.2⟩
theorem It{s:List Nat}{c:Ce}(h:dN s c=true):inG c=true:=by
 cases hq:inG c with
 |true=>rfl
 |false=>rw[fJ (by rw[hq];simp)]at h;cases h
theorem mH{s:List Nat}(hs:IsS s)(h0:¬s=s0):∃c,dN s c=true:=by
 cases hl:aR s 512 with
 |nil=>exact absurd (yc hs hl) h0
 |cons c l=>exact⟨c,dx.1 (by rw[hl];exact List.mem_cons_self)⟩
structure Rng (b:Bx) (x y z:Int):Prop where
 x:0<=b.lo.x+x/\b.hi.x+x<=7
 y:0<=b.lo.y+y/\b.hi.y+y<=7
 z:0<=b.lo.z+z/\b.hi.z+z<=7
theorem Rng.all{s:List Nat}{x y z:Int}(r:Rng (bL s).1 x y z){c:Ce}(h:dN s c=true):inG (shC x y z c)=true:=by
 obtain⟨h1,h2,h3⟩:=lI h;obtain⟨r1,r2,r3⟩:=r;refine jK.2 ⟨?_,?_,?_⟩<;>(unfold shC;dsimp only;omega)
theorem IP{s:List Nat}(hs:IsS s){x y z:Int}(r:Rng (bL s).1 x y z){m i:Nat}(hm:m<8)(hi:i<64):
 dN (kj s (bL s).1 x y z) (dY m i)=true↔ ∃c,dN s c=true/\shC x y z c=dY m i:=by
 have hall:∀c,dN s c=true->inG (shC x y z c)=true:=λc hc=>r.all hc;have hbx:=λc hc=> @lI s c hc;obtain⟨⟨bl1,bl2,bl3⟩,⟨bh1,bh2,bh3⟩⟩:=gK s;obtain⟨_,_,r3⟩:=r;unfold kj;generalize(bL s).1=b at*;rw[eS hm hi];by_cases hlh:b.lo.z<=b.hi.z
 ·rw[wS hs (by omega) (by omega) m hm];have hcond:((b.lo.z.toNat:Int)+z<=(m:Int)/\(m:Int)<(b.lo.z.toNat:Int)+z+((b.hi.z-b.lo.z+1).toNat:Nat))↔(b.lo.z+z<=m/\(m:Int)<=b.hi.z+z):=by omega
  by_cases hq:b.lo.z+z<=m/\(m:Int)<=b.hi.z+z
  ·rw[if_pos (hcond.2 hq),Nb hi,Bool.and_eq_true,decide_eq_true_eq];constructor
   ·rintro⟨h1,h2⟩;have hi':=Nl (hs.jL _) h2;have hm':((m:Int)-z).toNat<8:=by omega
    have hc:dN s (dY ((m:Int)-z).toNat ((i:Int)-(8*y+x)).toNat)=true:=by rw[eS hm' hi'];exact h2
    refine⟨_,hc,?_⟩;obtain⟨q1,q2,q3⟩:=jK.1 (hall _ hc);unfold shC dY at q1 q2 q3⊢;dsimp only at q1 q2 q3⊢;congr 1<;>omega
   ·rintro⟨c,hc,e⟩;obtain⟨m',i',hm',hi',rfl⟩:=gP (It hc);rw[eS hm' hi']at hc;unfold shC dY at e;injection e with e1 e2 e3
    dsimp only at e1 e2 e3;have e4:((m:Int)-z).toNat=m':=by omega
    have e5:((i:Int)-(8*y+x)).toNat=i':=by omega
    rw[e4,e5];exact⟨by omega,hc⟩
  ·rw[if_neg (λq=>hq (hcond.1 q)),Nat.zero_testBit];constructor
   ·intro h;cases h
   ·rintro⟨c,hc,e⟩;obtain⟨_,_,h3⟩:=hbx c hc;unfold shC dY at e;injection e with e1 e2 e3
    exact absurd ⟨by omega,by omega⟩ hq
 ·have hno:∀c,¬dN s c=true:=λc hc=>by have:=(hbx c hc).2.2;omega
  rw[show(b.hi.z-b.lo.z+1).toNat=0 by omega];constructor
  ·intro h;unfold jU at h;have:∀z:Fin 8,s0.getD z.val 0=0:=by decide
   rw[this ⟨m,hm⟩,Nat.zero_testBit]at h;cases h
  ·rintro⟨c,hc,_⟩;exact absurd hc (hno c)
theorem kQ{s:List Nat}{x y z:Int}(r:Rng (bL s).1 x y z):IsS (gp (shC x y z) s):=pM λc hc=>r.all (dx.1 hc)
theorem Ej{s:List Nat}(hs:IsS s){x y z:Int}(r:Rng (bL s).1 x y z):kj s (bL s).1 x y z=gp (shC x y z) s:=by
 refine uv (mS hs _ _ _ _) (kQ r) λm i hm hi=> ?_;have e1:=IP hs r hm hi;have e2:=iS (f:=shC x y z) (s:=s) (λc hc=>r.all (dx.1 hc)) (dY m i);cases h1:dN (kj s (bL s).1 x y z) (dY m i)with
 |true=>rw[e2.2 (e1.1 h1)]
 |false=>
  cases h2:dN (gp (shC x y z) s) (dY m i)with
  |false=>rfl
  |true=>rw[e1.2 (e2.1 h2)]at h1;cases h1
theorem Ac{lo hi z:Int}:z∈zr lo hi↔lo<=z/\z<=hi:=by
 constructor
 ·intro h;obtain⟨n,hn,rfl⟩:=List.mem_map.1 h;have:=List.mem_range.1 hn;omega
 ·rintro⟨h1,h2⟩;exact y6 (n:=(z-lo).toNat) (by omega) h2
end Go.A.Pk
end
section
namespace Go.A.Pk
variable {T:Nat->Option af}
structure NZ (T:Nat->Option af):Prop where
 tr:zb T
 f51:T 51=some f51
 f52:T 52=some f52
 f84:T 84=some f84
 f138:T 138=some f138
 f140:T 140=some f140
 f225:T 225=some f225
theorem Dn{a:Int}(h:0<=a/\a<=7):rW .neg (.int .i64 a)=some (.int .i64 (-a)):=by
 simp only[rW,Int.zero_sub];rw[bZ (by omega) (by omega)]
theorem IT{α:Type}{l:List α}{x:α}{p:α->Bool}(h:l.any p=false)(hx:p x=false):(l++[x]).any p=false:=by
 rw[List.any_append,h];simp[hx]
def ssL(l:List (List Nat)):List Value:=l.flatMap us
structure SsQ (h:Heap) (v:Value) (l:List (List Nat)):Prop where
 sl:bA h 8 v l.length (ssL l)
 ok:∀s∈l,IsS s
theorem SsQ.ext{h h':Heap}{v:Value}{l:List (List Nat)}(s:SsQ h v l)(x:Ext h h'):SsQ h' v l:=⟨s.sl.ext x,s.ok⟩
theorem SsQ.log{h:Heap}{v:Value}{l:List (List Nat)}(s:SsQ h v l)(m:List Nat):SsQ {h with log:=m} v l:=⟨s.sl.log m,s.ok⟩
theorem Eu:∀{l:List (List Nat)} {i:Nat} {x:List Nat},(∀s∈l,IsS s)->l[i]? =some x->((ssL l).drop (i*8)).take 8=us x
 |[],i,x,_,h=>by simp at h
 |c::l,0,x,hl,h=>by
  simp at h;subst h;have e:ssL (c::l)=us c++ssL l:=rfl;have e8:(us c).length=8:=by rw[aA,(hl c List.mem_cons_self).len]
  rw[e,Nat.zero_mul,List.drop_zero,List.take_append_of_le_length (by omega),List.take_of_length_le (by omega)]
 |c::l,i+1,x,hl,h=>by
  have e:ssL (c::l)=us c++ssL l:=rfl;have e8:(us c).length=8:=by rw[aA,(hl c List.mem_cons_self).len]
  have e2:(us c++ssL l).drop 8=ssL l:=by rw[←e8];exact List.drop_left
  rw[e,show(i+1)*8=8+i*8 by omega,←List.drop_drop,e2];exact Eu (λs hs=>hl s (List.mem_cons_of_mem _ hs)) (by simpa using h)
theorem SsQ.elem{h:Heap}{v:Value}{l:List (List Nat)}(s:SsQ h v l){i:Nat}{x:List Nat}(hi:l[i]? =some x):
 ∃b o c vs own t,v= .slice (some ⟨b,o,none⟩) l.length c/\h.get b=some (.cells vs own t)/\b<h.next/\bK 8 (bE (o+i*8) vs)=us x:=by
 have hlt:=(List.getElem?_eq_some_iff.1 hi).1;rcases bA.inv s.sl with⟨_,_,h0,_⟩|⟨b,o,cap,hv,s1,hc⟩
 ·omega
 ·obtain⟨vs,own,t,g1,g2⟩:=s1.obj;refine⟨b,o,cap,vs,own,t,hv,g1,s1.lt,?_⟩;rw[←Eu s.ok hi,←g2];simp only[bS,bn,List.drop_take,List.take_take,List.drop_drop];congr 1;omega
def BR(l:List (List Nat)):Int:=if 6<l.length then 2 else if l.any (λs=>decide (s=s0))then 1 else 0
theorem HR(hp:aP T)(hf:T 93=some f93){h:Heap}(hr:Rdy h){a:Option Addr}{n c:Nat}{l:List (List Nat)}(s:SsQ h (.slice a n c) l)(hn:n<1000000):Pu T 93 [.slice a n c] h (.int .i64 (BR l)):=by
 refine .of hp hf hr rfl ?_;obtain rfl:n=l.length:=by
  rcases bA.inv s.sl with⟨_,hv,h0,_⟩|⟨b,o,cap,hv,s1,hc⟩
  ·cases hv;exact h0.symm
  ·cases hv;rfl
 unfold BR;by_cases h6:6<l.length
 ·rw[if_pos h6];have m1:ah .gtr (.int .i64 (l.length:Nat)) (.int .i64 6)=some (.bool true):=ic (by omega);refine Y15 ?_;exact an hr.log rfl rfl
 rw[if_neg h6];have m1:ah .gtr (.int .i64 (l.length:Nat)) (.int .i64 6)=some (.bool false):=ij (by omega);refine Y17 ?_
 refine bD (λm e ds h'=>∃j:Nat,j<=l.length/\l.length-j=m/\e=[(0, .slice a l.length c),(3, .int .i64 (j:Nat))]/\ds=[]/\h=h'∧(l.take j).any (λs=>decide (s=s0))=false)
  ⟨0,Nat.zero_le _,rfl,rfl,rfl,rfl,rfl⟩ ?_
 rintro m e ds h' ⟨j,hj,rfl,rfl,rfl,rfl,hno⟩;by_cases hlt:j<l.length
 ·obtain⟨x,hx⟩:∃x,l[j]? =some x:=⟨l[j]'hlt,List.getElem?_eq_getElem _⟩;have hxs:=s.ok x (List.mem_of_getElem? hx);obtain⟨b,o,c2,vs,own,tt,hv,gl,hbl,el⟩:=s.elem hx;cases hv;have k8:=aG hxs.len;have mlt:ah .lss (.int .i64 (j:Nat)) (.int .i64 (l.length:Nat))=some (.bool true):=dz (by omega);by_cases h0:x=s0
  ·have e:l.any (λs=>decide (s=s0))=true:=List.any_eq_true.2 ⟨x,List.mem_of_getElem? hx,decide_eq_true h0⟩;rw[if_pos e];refine Y18 ?_;refine aB (iI (b:=s0) (by exact rfl) (by exact rfl) hxs.len rfl) ?_;rw[decide_eq_true h0];refine Y11 ?_;exact an hr.log rfl rfl
  ·refine Y18 ?_;refine aB (iI (b:=s0) (by exact rfl) (by exact rfl) hxs.len rfl) ?_;rw[decide_eq_false h0];refine Y10 ?_;refine⟨l.length-(j+1),by omega,j+1,by omega,rfl,rfl,rfl,rfl,?_⟩;rw[dS hx];exact IT hno (decide_eq_false h0)
 ·obtain rfl:j=l.length:=by omega
  rw[List.take_length]at hno;rw[if_neg (by rw[hno];simp)];have mlt:ah .lss (.int .i64 (l.length:Nat)) (.int .i64 (l.length:Nat))=some (.bool false):=dA (by omega);refine Y17 ?_;exact an hr.log rfl rfl
theorem Ae{h:Heap}{e:Env}{x:Operand}{s:List Nat}(hs:IsS s)(hx:ev h e x=some (sv s)):jf h e (eF 1 (aD 8 (.int .u64 0))) [(0,8,x)]=some (us s):=by
 have e1:cellsOf (sv s)=us s:=by show(us s).toArray.toList=_;simp
 have h0:eF 1 (aD 8 (.int .u64 0))=us s0:=rfl;have e2:cQ (us s0) 0 (us s)=us s:=by
  rw[fG (by rw[aA,aA,hs.len];decide),aA,hs.len,List.take_zero];simp[us,s0]
 have e3:bO (us s)=8:=by rw[bV,aA,hs.len]
 rw[h0];simp only[jf,hx,e1,e2,e3];rfl
structure N0 (T:Nat->Option af):Prop where
 rf:NZ T
 f31:T 31=some f31
 f49:T 49=some f49
 f93:T 93=some f93
theorem Hi(F:N0 T){h:Heap}(hr:Rdy h){w:List Nat×List Nat}(hw:IsW w):Pu T 31 [wV w] h (.int .i64 (if sIn w.1 w.2 then 0 else 1)):=by
 have hp:=F.rf.tr.cr.hr.p;refine .of hp F.f31 hr rfl ?_;have hwc:cellsOf (wV w)=wL w:=by show(wL w).toArray.toList=_;simp
 have g0:(h.push (.cells (cellsOf (wV w)) true 1)).get h.next=some (.cells (wL w) true 1):=by rw[hwc];exact z3 h _
 have W:WF (h.push (.cells (cellsOf (wV w)) true 1)):=hr.wf.push _;have hL:(h.push (.cells (cellsOf (wV w)) true 1)).log=[]:=hr.log;refine Y4 ?_;generalize(h.push (.cells (cellsOf (wV w)) true 1))=H at*;have C:=uZ hp F.rf.f52 F.rf.f140 (h:={H with log:=[]}) (.of W) hw.a hw.b;have wa:=Aq hw;have wb:=y9 hw;have wka:=aG hw.a.len;have wkb:=aG hw.b.len;cases hin:sIn w.1 w.2 with
 |true=>
  rw[hin]at C;rw[if_pos rfl];refine Y7 ?_;refine FW.pu C ?_;refine Y9 ?_;exact an hL rfl rfl
 |false=>
  rw[hin]at C;rw[if_neg (by simp)];refine Y7 ?_;refine FW.pu C ?_;refine Y8 ?_;exact an hL rfl rfl
end Go.A.Pk
end
section
namespace Go.A
open Go.Sort
variable {P:Program}
theorem NR{μ:Mu}{h:Heap}:∀(l:List Obj) {w:World},R P μ h w->R P μ h (Sort.grow w l.toArray)/\St μ h w μ h (Sort.grow w l.toArray)
 |[],w,hR=>by
  have e:Sort.grow w #[]=w:=grow_empty w;rw[e];exact⟨hR, .refl _ _ _⟩
 |o::l,w,hR=>by
  have e:Sort.grow w (o::l).toArray=Sort.grow (w.alloc o) l.toArray:=by
   rw[alloc_eq_grow,grow_grow];congr 1;apply Array.toList_inj.1;simp
  rw[e];obtain⟨r1,s1⟩:=hR.F1 (w':=w.alloc o) rfl;obtain⟨r2,s2⟩:=NR l r1;exact⟨r2,s1.trans s2 (Nat.le_refl _)⟩
end Go.A
end
section
namespace Go.A.Pk
open Go.Sort
variable {P:Program}
def leS(x y:List Nat):Bool:= !decide (cmpL y x<0)
def eD(l:List (List Nat)):List (List Nat):=l.mergeSort leS
theorem jA(l:List (List Nat)):(eD l).length=l.length:=List.length_mergeSort l
theorem fZ{l:List (List Nat)}{x:List Nat}:x∈eD l↔x∈l:=List.mem_mergeSort
theorem eL:∀{l:List (List Nat)},(∀s∈l,IsS s)->(ssL l).length=l.length*8
 |[],_=>rfl
 |s::l,h=>by
  have e:ssL (s::l)=us s++ssL l:=rfl;rw[e,List.length_append,aA,(h s List.mem_cons_self).len,eL (λx hx=>h x (List.mem_cons_of_mem _ hx)),List.length_cons];omega
theorem En{l:List (List Nat)}{v:Value}(h:v∈ssL l):∃m:Nat,v= .int .u64 (m:Nat):=by
 obtain⟨s,_,h⟩:=List.mem_flatMap.1 h;obtain⟨m,_,rfl⟩:=List.mem_map.1 h;exact⟨m,rfl⟩
def FI(k1 k2:Nat):Value->Bool
 | .func (.func k) a b=>(Nat.beq k k1||Nat.beq k k2)&&(Nat.beq (bO a.toList) 0&&Nat.beq (bO b.toList) 0)
 |_=>false
theorem DI{k1 k2:Nat}{v:Value}(h:FI k1 k2 v=true):∃k,(k=k1∨k=k2)/\v= .func (.func k) #[] #[]:=by
 unfold FI at h;split at h
 ·rename_i k a b;rw[Bool.and_eq_true,Bool.and_eq_true,Bool.or_eq_true,beq_eq,beq_eq,beq_eq,beq_eq,decide_eq_true_eq,decide_eq_true_eq,decide_eq_true_eq,decide_eq_true_eq,bV,bV]at h;obtain⟨h1,h2,h3⟩:=h;have ea:a= #[]:=by cases a;simpa using h2
  have eb:b= #[]:=by cases b;simpa using h3
  subst ea;subst eb;exact⟨k,h1,rfl⟩
 ·cases h
def yj:Nat->List Value->Option (List (List Nat))
 |0,_=>some []
 |n+1,vs=>match nM (bK 8 vs)with
  |some p=>bif Nat.beq (bO p) 8 then(match yj n (bE 8 vs)with
   |some r=>some (p::r)
   |none=>none)else none
  |none=>none
theorem BN:∀{n:Nat} {vs:List Value} {l:List (List Nat)},yj n vs=some l->l.length=n/\(∀s∈l,IsS s)/\vs=ssL l++bE (n*8) vs
 |0,vs,l,h=>by
  cases h;refine⟨rfl,(λs hs=>by cases hs),?_⟩;rw[bn,Nat.zero_mul,List.drop_zero];rfl
 |n+1,vs,l,h=>by
  unfold yj at h;split at h
  ·rename_i p hp;rw[cond_eq_ite,beq_eq,bV,Option.ite_none_right_eq_some,decide_eq_true_eq]at h;obtain⟨hl,h⟩:=h;split at h
   ·rename_i r hr;cases h;obtain⟨e1,e2,e3⟩:=BN hr;obtain⟨p1,p2⟩:=qP hp;refine⟨by rw[List.length_cons,e1],λs hs=> ?_,?_⟩
    ·rcases List.mem_cons.1 hs with rfl|hs
     ·exact⟨hl,p2⟩
     ·exact e2 s hs
    ·have e:ssL (p::r)=us p++ssL r:=rfl;rw[bS]at p1;rw[bn,bn]at e3;rw[bn,e,←p1,List.append_assoc];have e4:vs.drop ((n+1)*8)=(vs.drop 8).drop (n*8):=by rw[List.drop_drop];congr 1;omega
     rw[e4,←e3,List.take_append_drop]
   ·cases h
  ·cases h
theorem BE:∀{l:List (List Nat)} {t:List Value},(∀s∈l,IsS s)->yj l.length (ssL l++t)=some l
 |[],t,_=>rfl
 |s::l,t,h=>by
  have hs:=h s List.mem_cons_self;have e:ssL (s::l)++t=us s++(ssL l++t):=by show us s++ssL l++t=_;rw[List.append_assoc]
  have e8:(us s).length=8:=by rw[aA,hs.len]
  have e1:bK 8 (us s++(ssL l++t))=us s:=by rw[bS,←e8,List.take_left]
  have e2:bE 8 (us s++(ssL l++t))=ssL l++t:=by rw[bn,←e8,List.drop_left]
  have e3:Nat.beq (bO s) 8=true:=by rw[bV,hs.len];rfl
  rw[e,List.length_cons,yj,e1,uG hs.lt];dsimp only;rw[e3,cond_true,e2,BE λy hy=>h y (List.mem_cons_of_mem _ hy)]
def oH(k1 k2:Nat):List Value->Heap->Option (Value×Heap)
 |[.slice none 0 _,f],h=>bif FI k1 k2 f then some (.tuple #[],h)else none
 |[.slice (some ⟨b,o,none⟩) n _,f],h=>bif FI k1 k2 f&&(Nat.beq o 0&&Nat.blt n 1000000)then(match h.get b with
  |some (.cells vs true sz)=>match yj n vs with
   |some l=>some (.tuple #[],h.wr h.next b (.cells (ssL (eD l)++bE (n*8) vs) true sz))
   |none=>none
  |_=>none)else none
 |_,_=>none
theorem RM{μ:Mu}{k:Nat}{v:Value}(h:VR μ (.func (.func k) #[] #[]) v):v= .func (.func k) #[] #[]:=by
 cases h with
 |func hf h1 h2 h3 h4=>
  rename_i f' a' c';cases hf;have ea:a'= #[]:=by cases a';simpa using h1.symm
  have ec:c'= #[]:=by cases c';simpa using h3.symm
  rw[ea,ec]
theorem Ge{f k1 k2:Nat}{fn:Func}(hf:P.funcs[f]? =some fn)(hn:fn.name≠ "runtime.NumGoroutine")(hb:fn.body.isSome=true)
 (h0:∀(k:Nat) (p:Option Addr) (cap:Nat) (w:World),Calls P f #[.slice p 0 cap, .func (.func k) #[] #[]] w λe w'=>e= .returned (.tuple #[])/\w'=w)
 (h1:∀(k:Nat),k=k1∨k=k2→∀(blk off cap:Nat) (l:List (List Nat)) (w:World),(∀s∈l,IsS s)→Holds id w blk off (ssL l).toArray→blk<w.heap.size→l.length<4611686018427387904→
   Calls P f #[.slice (some ⟨blk,off,none⟩) l.length cap, .func (.func k) #[] #[]] w λe w'=>e= .returned (.tuple #[])/\∃n os,w'=Sort.grow (putRow id (Sort.ahead w n) blk off (ssL (eD l)).toArray) os):zH P f (oH k1 k2):=by
 intro args h v h' hp _;unfold oH at hp;split at hp
 ·rename_i c g;rw[cond_eq_ite,Option.ite_none_right_eq_some]at hp;obtain⟨hg,hp⟩:=hp;cases hp;obtain⟨k,hk,rfl⟩:=DI hg;refine⟨.refl _ _,λμ w args' hR ha=> ?_⟩;obtain⟨x',y',rfl,hx,hy⟩:=ha.two;obtain rfl:=RM hy;cases hx;exact jO hf hn hb (h0 _ _ _ w) λe w' ⟨q1,q2⟩=>by subst q1;subst q2;exact⟨μ, .tuple rfl (λi hi=>absurd hi (by simp)),hR, .refl _ _ _⟩
 ·rename_i b o n c g;rw[cond_eq_ite,Option.ite_none_right_eq_some,Bool.and_eq_true,Bool.and_eq_true,beq_eq,blt_eq,decide_eq_true_eq,decide_eq_true_eq]at hp;obtain⟨⟨hg,rfl,hlt⟩,hp⟩:=hp;obtain⟨kf,hkf,rfl⟩:=DI hg;split at hp
  ·rename_i vs sz hbo;split at hp
   ·rename_i l hxs;cases hp;obtain⟨hln,hok,hvs⟩:=BN hxs;have hsl:(ssL l).length=n*8:=by rw[eL hok,hln]
    have hok2:∀s∈eD l,IsS s:=λs hs=>hok s (fZ.1 hs);have hsl2:(ssL (eD l)).length=n*8:=by rw[eL hok2,jA,hln]
    have hdl:(bE (n*8) vs).length=vs.length-n*8:=by rw[bn,List.length_drop]
    have hvl:n*8<=vs.length:=by
     have:=congrArg List.length hvs;rw[List.length_append,hsl]at this;omega
    have hnl:(ssL (eD l)++bE (n*8) vs).length=vs.length:=by rw[List.length_append,hsl2,hdl];omega
    refine⟨AS.wr _ _ _ _,λμ w args' hR ha=> ?_⟩;obtain⟨x',y',rfl,hx,hy⟩:=ha.two;obtain rfl:=RM hy;have key:∀k c',μ b=some k->nV P (gL P μ h w (.ret (.tuple #[])) (h.wr h.next b (.cells (ssL (eD l)++bE (n*8) vs) true sz))) ((callFunc f #[.slice (some ⟨k.r,k.d+0,none⟩) n c', .func (.func kf) #[] #[]]).run P w):=λk c' hk=>by
     obtain⟨hsz,cc,el,fz,g1,g2,g3,g4,g5⟩:=hR.obj b _ hbo k hk;obtain⟨hd,he,hfz⟩:=g5 rfl;have gvL:∀(l2:List Value) j,(hj:j<l2.length)->gv l2 j=l2[j]:=λl2 j hj=>by simp[gv,cF,hj]
     have hat:∀j,(hj:j<(ssL l).length)->cc[k.d+j]? =some (ssL l)[j]:=λj hj=>by
      obtain⟨v',p1,p2⟩:=g4 j (by omega);have e:gv vs j=(ssL l)[j]:=by
       rw[gvL vs j (by omega)];have:vs[j]? =(ssL l)[j]? :=by
        conv=>lhs;rw[hvs]
        rw[List.getElem?_append_left hj]
       rw[List.getElem?_eq_getElem (by omega),List.getElem?_eq_getElem hj,Option.some.injEq]at this;exact this
      rw[e]at p2;obtain⟨m,hm⟩:=En (List.getElem_mem hj);rw[hm]at p2⊢;cases p2;exact p1
     have hH:Holds id w k.r (k.d+0) (ssL l).toArray:=λj hj=>by
      have hj:j<(ssL l).length:=by simpa using hj
      refine⟨?_,?_⟩
      ·rw[cell_of g1,Nat.add_zero,hat j hj];simp[hj]
      ·have:=hfz (k.d+0+j) (by omega);simp only[World.frozen?,g1];simpa using this
     have hcall:=h1 kf hkf k.r (k.d+0) c' l w hok hH (hR.dom _ _ hk).2 (by omega);rw[hln]at hcall;refine jO hf hn hb hcall λe w' ⟨q1,m,os,q2⟩=> ?_;subst q1;subst q2;obtain⟨r1,s1⟩:=hR.world (w':=Sort.ahead w m) rfl;have hg:(putRow id (Sort.ahead w m) k.r (k.d+0) (ssL (eD l)).toArray).heap=w.heap.modify k.r (onCells (putCells id (k.d+0) (ssL (eD l)).toArray)):=rfl;have g1':(putRow id (Sort.ahead w m) k.r (k.d+0) (ssL (eD l)).toArray).heap[k.r]? =some (.cells (putCells id (k.d+0) (ssL (eD l)).toArray cc) el fz):=by
      rw[hg,Array.getElem?_modify,if_pos rfl,g1];rfl
     have hps:(putCells id (k.d+0) (ssL (eD l)).toArray cc).size=cc.size:=by simp[putCells]
     obtain⟨r2,s2⟩:=r1.write (base:=h.next) (b:=b) (o:= .cells vs true sz) (o':= .cells (ssL (eD l)++bE (n*8) vs) true sz) (k:=k) (w':=putRow id (Sort.ahead w m) k.r (k.d+0) (ssL (eD l)).toArray) hbo rfl rfl hk
      (by rw[hg];simp[Sort.ahead]) (fun r hr=>by rw[hg,Array.getElem?_modify,if_neg (Ne.symm hr)];rfl) (.vz g1 g1' (by omega)) (by
        intro k' hk';rw[hk]at hk';cases hk';refine⟨hsz,_,el,fz,g1',by omega,by omega,λi hi=> ?_,λ_=>⟨hd,by omega,λj hj=>hfz j (by omega)⟩⟩;obtain⟨v',p1,p2⟩:=g4 i (by omega);have hgv:gv (ssL (eD l)++bE (n*8) vs) i=(ssL (eD l)++bE (n*8) vs)[i]:=gvL _ i hi;rw[hgv];by_cases hi8:i<n*8
        ·rw[List.getElem_append_left (by omega)];obtain⟨q,hq⟩:=En (List.getElem_mem (show i<(ssL (eD l)).length by omega));refine⟨(ssL (eD l))[i],?_,by rw[hq];exact .int _ _⟩;simp only[putCells,Array.getElem?_mapIdx,p1,z7];rw[if_pos ⟨by omega,by simp;omega⟩];have:i<(ssL (eD l)).length:=by omega
         simp[this]
        ·refine⟨v',?_,?_⟩
         ·simp only[putCells,Array.getElem?_mapIdx,p1,z7];rw[if_neg (λq=>by simp at q;omega)]
         ·have e:(ssL (eD l)++bE (n*8) vs)[i]? =vs[i]? :=by
           rw[List.getElem?_append_right (by omega),hsl2,bn,List.getElem?_drop];congr 1;omega
          rw[List.getElem?_eq_getElem hi,List.getElem?_eq_getElem (by omega),Option.some.injEq]at e;rw[e,←gvL vs i (by omega)];exact p2)
     obtain⟨r3,s3⟩:=NR os.toList r2;have e3:Sort.grow (putRow id (Sort.ahead w m) k.r (k.d+0) (ssL (eD l)).toArray) os.toList.toArray=Sort.grow (putRow id (Sort.ahead w m) k.r (k.d+0) (ssL (eD l)).toArray) os:=rfl;rw[e3]at r3 s3;exact⟨μ, .tuple rfl (λi hi=>absurd hi (by simp)),r3,(s1.trans s2 (Nat.le_refl _)).trans s3 (Nat.le_refl _)⟩
    cases hx with
    |slice hk q1 q2=>exact key _ _ hk
    |ez hk q1 q2 q3=>exact key _ _ hk
   ·cases hp
  ·cases hp
 ·cases hp
end Go.A.Pk
end
section
namespace Go.A.Pk
variable {T:Nat->Option af}
theorem SsQ.len{h:Heap}{a:Option Addr}{n c:Nat}{l:List (List Nat)}(s:SsQ h (.slice a n c) l):n=l.length:=by
 rcases bA.inv s.sl with⟨_,hv,h0,_⟩|⟨b,o,cap,hv,s1,hc⟩
 ·cases hv;exact h0.symm
 ·cases hv;rfl
def jb(P:List Nat->Bool):List (List Nat)->Nat->Int
 |[],_=> -1
 |r::l,i=>if P r then(i:Int)else jb P l (i+1)
theorem EW(P:List Nat->Bool){l:List (List Nat)}{i:Nat}{r:List Nat}(hi:l[i]? =some r):jb P (l.drop i) i=if P r then(i:Int)else jb P (l.drop (i+1)) (i+1):=by
 obtain⟨hlt,rfl⟩:=List.getElem?_eq_some_iff.1 hi;rw[List.drop_eq_getElem_cons hlt,jb]
theorem JN(P:List Nat->Bool)(l:List (List Nat)):jb P (l.drop l.length) l.length= -1:=by rw[List.drop_length];rfl
theorem B2(P:List Nat->Bool):∀(l:List (List Nat)) (i:Nat),decide (0<=jb P l i)=l.any P
 |[],i=>rfl
 |r::l,i=>by
  rw[jb,List.any_cons];by_cases h:P r=true
  ·rw[if_pos h,h,decide_eq_true (by omega)];rfl
  ·rw[if_neg h,B2 P l (i+1)];rw[Bool.not_eq_true]at h;rw[h,Bool.false_or]
theorem AV(P:List Nat->Bool):∀(l:List (List Nat)) (i:Nat),0<=jb P l i->∃k r,l[k]? =some r/\P r=true/\jb P l i=((i+k:Nat):Int)/\∀x∈l.take k,P x=false
 |[],i,h=>by simp[jb]at h
 |r::l,i,h=>by
  rw[jb]at h⊢;by_cases hp:P r=true
  ·exact⟨0,r,rfl,hp,by rw[if_pos hp];rfl,λx hx=>by simp at hx⟩
  ·rw[if_neg hp]at h⊢;obtain⟨k,q,h1,h2,h3,h4⟩:=AV P l (i+1) h;refine⟨k+1,q,by simpa using h1,h2,by rw[h3];congr 1;omega,λx hx=> ?_⟩;rw[List.take_succ_cons]at hx;rcases List.mem_cons.1 hx with rfl|hx
   ·simpa using hp
   ·exact h4 x hx
theorem B8(P:List Nat->Bool):∀(l:List (List Nat)) (i:Nat),¬0<=jb P l i->jb P l i= -1/\∀x∈l,P x=false
 |[],i,h=>⟨rfl,λx hx=>by simp at hx⟩
 |r::l,i,h=>by
  rw[jb]at h⊢;by_cases hp:P r=true
  ·rw[if_pos hp]at h;omega
  ·rw[if_neg hp]at h⊢;obtain⟨h1,h2⟩:=B8 P l (i+1) h;refine⟨h1,λx hx=> ?_⟩;rcases List.mem_cons.1 hx with rfl|hx
   ·simpa using hp
   ·exact h2 x hx
theorem AL(hp:aP T)(hf:T 257=some f257){h:Heap}(hr:Rdy h){a:Option Addr}{n c:Nat}{l:List (List Nat)}(s:SsQ h (.slice a n c) l)(hn:n<1000000){g:Nat}{cap:List Value}(P:List Nat->Bool)
 (HP:∀r∈l,Pu T g (sv r::cap) h (.bool (P r))):Pu T 257 [.slice a n c, .func (.func g) #[] cap.toArray] h (.int .i64 (jb P l 0)):=by
 refine .of hp hf hr rfl ?_;obtain rfl:=s.len;refine Y10 ?_
 refine bD (λm e ds h'=>∃i:Nat,i<=l.length/\m=l.length-i/\e=[(0, .slice a l.length c),(1, .func (.func g) #[] cap.toArray),(7, .int .i64 (l.length:Nat)),(8, .int .i64 (i:Nat))]/\ds=[]/\h=h'∧jb P l 0=jb P (l.drop i) i)
  ⟨0,Nat.zero_le _,rfl,rfl,rfl,rfl,rfl⟩ ?_
 rintro m e ds _ ⟨i,hin,rfl,rfl,rfl,rfl,hi⟩;by_cases hlt:i<l.length
 ·obtain⟨r,hri⟩:∃r,l[i]? =some r:=⟨l[i],List.getElem?_eq_getElem hlt⟩;obtain⟨b,o,c2,vs,own,t,hv,g1,hb,k1⟩:=s.elem hri;cases hv;have k2:=aG (s.ok r (List.mem_of_getElem? hri)).len;have H:=HP r (List.mem_of_getElem? hri);rw[EW P hri]at hi;refine Y19 ?_;refine pY (uI (all:=sv r::cap) (by exact rfl) (by exact rfl) (by exact rfl) (by rw[dy,dy];simp[sv])) ?_;refine FW.pu (by rw[hr.self];exact H) ?_;clear H HP;cases hpr:P r with
  |true=>
   rw[hpr,if_pos rfl]at hi;rw[hi];refine Y12 ?_;exact an hr.log rfl rfl
  |false=>
   rw[hpr,if_neg (by simp)]at hi;refine Y9 ?_;exact⟨l.length-(i+1),by omega,i+1,by omega,rfl,rfl,rfl,rfl,hi⟩
 ·obtain rfl:i=l.length:=by omega
  rw[JN]at hi;rw[hi];refine Y14 ?_;exact an hr.log rfl rfl
theorem tV(hp:aP T)(hf:T 196=some f196)(hf2:T 257=some f257){h:Heap}(hr:Rdy h){a:Option Addr}{n c:Nat}{l:List (List Nat)}(s:SsQ h (.slice a n c) l)(hn:n<1000000){g:Nat}{cap:List Value}(P:List Nat->Bool)
 (HP:∀r∈l,Pu T g (sv r::cap) h (.bool (P r))):Pu T 196 [.slice a n c, .func (.func g) #[] cap.toArray] h (.bool (l.any P)):=by
 refine .of hp hf hr rfl ?_;have C:=AL hp hf2 hr s hn P HP;rw[←B2 P l 0];generalize jb P l 0=z at C⊢;refine Y7 ?_;refine FW.pu (by rw[hr.self];exact C) ?_;clear C;have m1:ah .geq (.int .i64 z) (.int .i64 0)=some (.bool (decide (0<=z))):=B7;refine Y4 ?_;exact an hr.log rfl rfl
def OwS(lo:Nat)(h:Heap)(v:Value)(l:List (List Nat)):Prop:=
 (v= .slice none 0 0/\l=[])∨∃b c t,lo<=b/\b<h.next/\h.get b=some (.cells (ssL l++t) true 8)/\v= .slice (some ⟨b,0,none⟩) l.length c/\l.length<=c/\(l≠[]->c=UNK)
def vB(v:Value)(z:Nat):Prop:=∃m c,v= .slice (some ⟨z,0,none⟩) m c
theorem OwS.vb{lo:Nat}{h:Heap}{v:Value}{l:List (List Nat)}(q:OwS lo h v l){z:Nat}(hz:vB v z):lo<=z/\z<h.next:=by
 obtain⟨m,c,hz⟩:=hz;rcases q with⟨rfl,_⟩|⟨b,c,t,h1,h2,h3,rfl,_⟩
 ·cases hz
 ·cases hz;exact⟨h1,h2⟩
theorem OwS.ss{lo:Nat}{h:Heap}{v:Value}{l:List (List Nat)}(q:OwS lo h v l)(hl:∀s∈l,IsS s):SsQ h v l:=by
 refine⟨?_,hl⟩;rcases q with⟨rfl,rfl⟩|⟨b,c,t,h1,h2,h3,rfl,h4,h5⟩
 ·exact .nil
 ·refine .mem ⟨h2,⟨_,_,_,h3,?_⟩,eL hl⟩ h4;rw[bS,bn,List.drop_zero,List.take_append_of_le_length (by rw[eL hl];omega),List.take_of_length_le (by rw[eL hl];omega)]
theorem OwS.keep{lo:Nat}{h h':Heap}{v:Value}{l:List (List Nat)}(q:OwS lo h v l)(hn:h.next<=h'.next)(ha:∀z,lo<=z->z<h.next->h'.get z=h.get z):OwS lo h' v l:=by
 rcases q with q|⟨b,c,t,h1,h2,h3,rfl,h4,h5⟩
 ·exact .inl q
 ·exact .inr ⟨b,c,t,h1,by omega,(ha b h1 h2).trans h3,rfl,h4,h5⟩
theorem OwS.ext{lo:Nat}{h h':Heap}{v:Value}{l:List (List Nat)}(q:OwS lo h v l)(x:Ext h h'):OwS lo h' v l:=q.keep x.next λz _ hz=>x.old z hz
theorem OwS.log{lo:Nat}{h:Heap}{v:Value}{l:List (List Nat)}(q:OwS lo h v l)(m:List Nat):OwS lo {h with log:=m} v l:=q
theorem OwS.low{lo lo':Nat}{h:Heap}{v:Value}{l:List (List Nat)}(q:OwS lo h v l)(hl:lo'≤lo):OwS lo' h v l:=by
 rcases q with q|⟨b,c,t,h1,h2⟩
 ·exact .inl q
 ·exact .inr ⟨b,c,t,by omega,h2⟩
theorem OwS.flat{lo lo':Nat}{h h':Heap}{v:Value}{l:List (List Nat)}(hv:cA v=true)(q:OwS lo h v l):OwS lo' h' v l:=by
 rcases q with q|⟨b,c,t,h1,h2,h3,rfl,_⟩
 ·exact .inl q
 ·cases hv
theorem OwS.form{lo:Nat}{h:Heap}{v:Value}{l:List (List Nat)}(q:OwS lo h v l):∃a c,v= .slice a l.length c:=by
 rcases q with⟨rfl,rfl⟩|⟨b,c,t,h1,h2,h3,rfl,_⟩
 ·exact⟨none,0,rfl⟩
 ·exact⟨_,c,rfl⟩
theorem Own.owS{lo:Nat}{h:Heap}{v:Value}{l:List (List Nat)}(q:Own lo h 8 v l.length (ssL l))(hn:l.length<4000000):OwS lo h v l:=by
 generalize hm:l.length=n at q;generalize hc:ssL l=cs at q;cases q with
 |nil=>exact .inl ⟨rfl,List.length_eq_zero_iff.1 hm⟩
 |full h1 h2 h3 h4 h5=>
  subst hm;subst hc;exact .inr ⟨_,UNK,[],h1,h2,by rw[List.append_nil];exact h3,rfl,by unfold UNK;omega,λ_=>rfl⟩
theorem nq(a b:List (List Nat)):ssL (a++b)=ssL a++ssL b:=by simp[ssL]
theorem Ba(a:List Nat)(b:List (List Nat)):ssL (a::b)=us a++ssL b:=rfl
theorem uS{l:List (List Nat)}{i:Nat}(h:∀r∈l,IsS r):(ssL l).take (i*8)=ssL (l.take i):=by
 by_cases hi:i<=l.length
 ·have e:l=l.take i++l.drop i:=(List.take_append_drop i l).symm;have hlen:(ssL (l.take i)).length=i*8:=by rw[eL λr hr=>h r (List.mem_of_mem_take hr),List.length_take,Nat.min_eq_left hi]
  conv=>lhs;rw[e,nq]
  rw[←hlen,List.take_left]
 ·rw[List.take_of_length_le (by rw[eL h];omega),List.take_of_length_le (by omega)]
theorem AP{l:List (List Nat)}{i:Nat}(h:∀r∈l,IsS r):(ssL l).drop (i*8)=ssL (l.drop i):=by
 by_cases hi:i<=l.length
 ·have e:l=l.take i++l.drop i:=(List.take_append_drop i l).symm;have hlen:(ssL (l.take i)).length=i*8:=by rw[eL λr hr=>h r (List.mem_of_mem_take hr),List.length_take,Nat.min_eq_left hi]
  conv=>lhs;rw[e,nq]
  rw[←hlen,List.drop_left]
 ·rw[List.drop_of_length_le (by rw[eL h];omega),List.drop_of_length_le (by omega)];rfl
theorem Aj{l:List (List Nat)}{t:List Value}{i:Nat}{r:List Nat}(h:∀r∈l,IsS r)(hr:IsS r)(hi:i<l.length):cQ (ssL l++t) (0+i*8) (us r)=ssL (l.set i r)++t:=by
 have hl:=eL h;have hu:(us r).length=8:=by rw[aA,hr.len]
 rw[Nat.zero_add,fG (by rw[hu,List.length_append,hl];omega),hu,List.take_append_of_le_length (by omega),List.drop_append_of_le_length (by omega),uS h,show i*8+8=(i+1)*8 by omega,AP h,List.set_eq_take_append_cons_drop,if_pos hi,nq,Ba];simp
theorem nS{l:List (List Nat)}{t:List Value}{i:Nat}{x:List Nat}(h:∀r∈l,IsS r)(hi:l[i]? =some x):bK 8 (bE (0+i*8) (ssL l++t))=us x:=by
 have hlt:=(List.getElem?_eq_some_iff.1 hi).1;have hl:=eL h;rw[bS,bn,Nat.zero_add,List.drop_append_of_le_length (by omega),List.take_append_of_le_length (by rw[List.length_drop];omega),Eu h hi]
theorem Ay{l:List (List Nat)}{t:List Value}{i:Nat}{r:List Nat}(h:∀r∈l,IsS r)(hr:IsS r)(hi:i<l.length):(Nat.beq (bO (cellsOf (sv r))) 8&&Nat.ble (0+i*8+8) (bO (ssL l++t))&&dP (cellsOf (sv r)))=true:=by
 have e:cellsOf (sv r)=us r:=by show(us r).toArray.toList=_;simp
 rw[e,bV,bV,aA,hr.len,bB,List.length_append,eL h,gw (by omega)];rfl
theorem KK(hp:aP T)(hf:T 194=some f194){h:Heap}(hr:Rdy h){v:Value}{l:List (List Nat)}(s:SsQ h v l)(hn:l.length<1000000):Al T 194 [v] h λv h'=>OwS h.next h' v l:=by
 refine .of hp hf hr (λv h1 hv q=>OwS.flat hv q) ?_;rcases bA.inv s.sl with⟨c',rfl,h0,_⟩|⟨b,o,cap,rfl,s1,hc⟩
 ·have hl:l=[]:=List.length_eq_zero_iff.1 h0;subst hl;refine Y6 ?_;refine aB (Kx (by exact rfl) (by exact rfl) (by exact rfl)) ?_;refine Y7 ?_;exact cK hr.log rfl (.inl ⟨rfl,rfl⟩)
 ·have hs:=P7 (s.sl.ext ((Ext.refl h).push (.cells [] true 8)));by_cases h0:l.length=0
  ·have hl:l=[]:=List.length_eq_zero_iff.1 h0;subst hl;refine Y6 ?_;refine aB (Kx (by exact rfl) (by exact rfl) (by exact rfl)) ?_;refine Y5 ?_;refine aB (iy (by exact rfl) (by exact rfl)) ?_;refine yM ?_;refine aB (qB (by exact rfl) (by exact rfl) hs (Nat.le_refl _)) ?_;refine Y3 ?_;refine cK hr.log rfl (.inr ⟨h.next,_,[],Nat.le_refl _,Nat.lt_succ_self _,?_,rfl,Nat.le_refl _,λq=>absurd rfl q⟩)
   (simp(disch:=first|omega|(simp only[z1,z2];omega))only[z3,z4,z5,z6,z7,z1,z2];exact rfl)
  ·refine Y6 ?_;refine aB (Kx (by exact rfl) (by exact rfl) (by exact rfl)) ?_;refine Y5 ?_;refine aB (iy (by exact rfl) (by exact rfl)) ?_;refine yM ?_;refine aB (qz (c:=0) (len:=0) (by exact rfl) (by exact rfl) hs h0 (by omega) (by decide) (z3 h _) (by exact Nat.le_refl _) (by omega) (by exact rfl)) ?_;refine Y3 ?_;refine cK hr.log rfl (.inr ⟨h.next+1,UNK,[],Nat.le_succ _,Nat.lt_succ_self _,?_,?_,by unfold UNK;omega,λ_=>rfl⟩)
   ·rw[List.append_nil];(simp(disch:=first|omega|(simp only[z1,z2];omega)|(simp only[z1,z2];done)|fail)only[z8,z4,z5,z9,z7,z1,z2];exact rfl)
   ·rw[Nat.zero_add];rfl
theorem rH{l:List (List Nat)}{i:Nat}{r:List Nat}(hi:l[i]? =some r)(Q:List Nat->Bool):(l.take (i+1)).filter Q=(l.take i).filter Q++(if Q r then [r]else []):=by
 obtain⟨hlt,rfl⟩:=List.getElem?_eq_some_iff.1 hi;rw[List.take_succ_eq_append_getElem hlt,List.filter_append];congr 1;by_cases hq:Q l[i]=true
 ·simp[hq]
 ·simp[hq]
theorem xT{l:List (List Nat)}{i:Nat}{r:List Nat}(hi:i<l.length):(l.set i r).take (i+1)=l.take i++[r]:=by
 apply List.ext_getElem?;intro k;by_cases hk:k<i
 ·rw[List.getElem?_take_of_lt (by omega),List.getElem?_set_ne (by omega),List.getElem?_append_left (by rw[List.length_take];omega),List.getElem?_take_of_lt hk]
 ·by_cases hk2:k=i
  ·subst hk2;rw[List.getElem?_take_of_lt (by omega),List.getElem?_set_self hi,List.getElem?_append_right (by rw[List.length_take];omega),List.length_take,Nat.min_eq_left (by omega),Nat.sub_self];rfl
  ·rw[List.getElem?_eq_none (by rw[List.length_take,List.length_set];omega),List.getElem?_eq_none (by rw[List.length_append,List.length_take,List.length_singleton];omega)]
theorem xJ{l:List (List Nat)}{i j:Nat}{r:List Nat}(hi:i<j):(l.set i r).drop j=l.drop j:=by
 apply List.ext_getElem?;intro k;rw[List.getElem?_drop,List.getElem?_drop,List.getElem?_set_ne (by omega)]
def zS:List Value:=aD 8 (.int .u64 0)
theorem zL:∀n,dP (eF n zS)=true
 |0=>rfl
 |n+1=>by
  show dP (dL zS (eF n zS))=true;rw[dy];exact kY rfl (zL n)
theorem vY{l D:List (List Nat)}{t ws:List Value}{i:Nat}(hl:∀r∈l,IsS r)(hi:i<=l.length)(hD:l.take i=D)(hw:cQ (ssL l++t) (0+i*8) (eF (l.length-i) zS)=ws):∃t',ws=ssL D++t':=by
 have hz:(eF (l.length-i) zS).length=(l.length-i)*8:=by rw[jW];rfl
 have hll:=eL hl;rw[←hw,fG (by rw[hz,List.length_append,hll];omega),Nat.zero_add,List.take_append_of_le_length (by omega),uS hl,hD,List.append_assoc];exact⟨_,rfl⟩
theorem Fc(hp:aP T)(hf:T 193=some f193)(hf2:T 257=some f257){h:Heap}(hr:Rdy h){lo:Nat}{l:List (List Nat)}{v:Value}(q:OwS lo h v l)(hl:∀r∈l,IsS r)(hn:l.length<1000000){g:Nat}{cap:List Value}(P:List Nat->Bool)
 (HP:∀h':Heap,WF h'→h.next<=h'.next->(∀z,z<lo->h'.get z=h.get z)->∀r,IsS r->Pu T g (sv r::cap) {h' with log:=[]} (.bool (P r))):
 Gs T 193 [v, .func (.func g) #[] cap.toArray] h (vB v) (λv h'=>OwS lo h' v (l.filter λr=> !P r)):=by
 have sR:=q.ss hl;obtain⟨a,c,rfl⟩:=q.form;refine .of hp hf ?_ ?_
 ·intro v h1 h2 hv hn2 hag hq;exact OwS.flat hv hq
 have C:=AL hp hf2 hr sR hn P (λr hR=>by
  have:=HP h hr.wf (Nat.le_refl _) (λ_ _=>rfl) r (hl r hR)
  rwa [hr.self]at this)
 refine Y7 ?_;refine FW.pu (by rw[hr.self];exact C) ?_;clear C;by_cases hi:0<=jb P l 0
 ·obtain⟨k,rk,h1,h2,h3,h4⟩:=AV P l 0 hi;rw[Nat.zero_add]at h3;rw[h3];have hkl:k<l.length:=(List.getElem?_eq_some_iff.1 h1).1;rcases q with⟨_,rfl⟩|⟨b,c',tl,hb1,hb2,hb3,hv,hcl,hcu⟩
  ·simp at hkl
  ·cases hv;obtain rfl:=hcu (λq=>by rw[q]at hkl;simp at hkl);have m1:ah .eql (.int .i64 (k:Nat)) (.int .i64 (-1))=some (.bool false):=mg (by omega);refine Y17 ?_;refine bD (λmm e ds h'=>∃(j i:Nat) (m:List (List Nat)),j<=l.length/\i<j/\mm=l.length-j/\e=[(0, .slice (some ⟨b,0,none⟩) l.length UNK),(1, .func (.func g) #[] cap.toArray),(5, .int .i64 (i:Nat)),(6, .int .i64 (j:Nat))]/\ds=[]∧
    WF h'∧h.next<=h'.next/\(∀z,z<lo->h'.get z=h.get z)/\(∀z∈h'.log,vB (.slice (some ⟨b,0,none⟩) l.length UNK) z)/\h'.get b=some (.cells (ssL m++tl) true 8)/\m.length=l.length/\(∀r∈m,IsS r)/\m.take i=(l.take j).filter (λr=> !P r)/\m.drop j=l.drop j)
    ⟨k+1,k,l,hkl,Nat.lt_succ_self _,rfl,rfl,rfl,hr.wf,Nat.le_refl _,λ_ _=>rfl,(by rw[hr.log];intro z hz;cases hz),hb3,rfl,hl,?_,rfl⟩ ?_
   ·rw[rH h1,h2];simp only[Bool.not_true,Bool.false_eq_true,if_false,List.append_nil];exact(List.filter_eq_self.2 (λx hx=>by rw[h4 x hx];rfl)).symm
   rintro mm e ds H ⟨j,i,m,hj,hij,rfl,rfl,rfl,hw,hnx,hold,hlg,gb,hm,hmR,htk,hdr⟩;have hbn:b<H.next:=WF.hM hw gb
   by_cases hlt:j<l.length
   ·obtain⟨r,hr1⟩:∃r,l[j]? =some r:=⟨l[j],List.getElem?_eq_getElem hlt⟩;have hmj:m[j]? =some r:=by
     have e1:(m.drop j)[0]? =(l.drop j)[0]? :=by rw[hdr]
     rw[List.getElem?_drop,List.getElem?_drop]at e1;exact e1.trans hr1
    have hrR:=hmR r (List.mem_of_getElem? hmj);have ra0:=nS (t:=tl) hmR hmj;have rl:=aG hrR.len;have rk8:=aN hrR.len;have rln:=hrR.len;refine Y17 ?_;refine aB (tR) ?_;refine aB (aO (by exact rfl) (by exact rfl) YG (by(simp only[aA];assumption)) (by exact rfl) (by exact bB _)) ?_;refine Y3 ?_;refine aB (cC (by exact rfl) YG (by assumption) (by assumption)) ?_;have W2:WF (((H.push (.cells (aD 8 (.int .u64 0)) true 1)).wr h.next H.next (.cells (us r) true 1))):=(hw.push (.cells (aD 8 (.int .u64 0)) true 1)).as (AS.wr h.next _ _ _);have HPr:=HP _ W2 (show h.next<=H.next+1 by omega) (λz hz=>by
     rw[z5 (by omega),z4 (by omega)];exact hold z hz) r hrR
    refine pY (uI (all:=sv r::cap) (by exact rfl) (by exact rfl) (by exact rfl) (by rw[dy,dy];simp[sv])) ?_;refine FW.pu HPr ?_;clear HPr;have hlg2:∀z∈(((H.push (.cells (aD 8 (.int .u64 0)) true 1)).wr h.next H.next (.cells (us r) true 1))).log,vB (.slice (some ⟨b,0,none⟩) l.length UNK) z:=by
     rw[Heap.aq hnx];exact hlg
    have gb2:(((H.push (.cells (aD 8 (.int .u64 0)) true 1)).wr h.next H.next (.cells (us r) true 1))).get b=some (.cells (ssL m++tl) true 8):=by
     rw[z5 (by omega),z4 hbn];exact gb
    have gn2:(((H.push (.cells (aD 8 (.int .u64 0)) true 1)).wr h.next H.next (.cells (us r) true 1))).get H.next=some (.cells (us r) true 1):=by
     rw[z6,z3];rfl
    have hold2:∀z,z<lo->(((H.push (.cells (aD 8 (.int .u64 0)) true 1)).wr h.next H.next (.cells (us r) true 1))).get z=h.get z:=λz hz=>by
     rw[z5 (by omega),z4 (by omega)];exact hold z hz
    have hnx2:(((H.push (.cells (aD 8 (.int .u64 0)) true 1)).wr h.next H.next (.cells (us r) true 1))).next=H.next+1:=rfl
    generalize(((H.push (.cells (aD 8 (.int .u64 0)) true 1)).wr h.next H.next (.cells (us r) true 1)))=H2 at*;cases hp:P r with
    |true=>
     refine Y11 ?_;refine⟨l.length-(j+1),by omega,j+1,i,m,by omega,by omega,rfl,rfl,rfl,W2,by omega,hold2,hlg2,gb2,hm,hmR,?_,?_⟩
     ·rw[rH hr1,hp,htk];simp
     ·rw[←List.drop_drop,←List.drop_drop,hdr]
    |false=>
     have kc:=Ay (t:=tl) hmR hrR (i:=i) (by omega);have kw:cQ (ssL m++tl) (0+i*8) (cellsOf (sv r))=ssL (m.set i r)++tl:=by
      have e:cellsOf (sv r)=us r:=by show(us r).toArray.toList=_;simp
      rw[e,Aj hmR hrR (by omega)]
     refine Y8 ?_;refine aB (jm (by exact rfl) (by exact rfl) gb2 kc kw) ?_;refine Y5 ?_;refine cN ?_;refine Y8 ?_;refine⟨l.length-(j+1),by omega,j+1,i+1,m.set i r,by omega,by omega,rfl,rfl,rfl,W2.as (AS.wr h.next _ _ _),(by show h.next<=H2.next;omega),?_,uV hlg2 ⟨_,_,rfl⟩,?_,by rw[List.length_set];exact hm,?_,?_,?_⟩
     ·intro z hz;rw[z5 (by omega)];exact hold2 z hz
     ·rw[z6,gb2];rfl
     ·intro x hx;rcases List.mem_or_eq_of_mem_set hx with hx|rfl
      ·exact hmR x hx
      ·exact hrR
     ·rw[xT (by omega),rH hr1,hp,htk];simp
     ·rw[xJ (by omega),←List.drop_drop,←List.drop_drop,hdr]
   ·obtain rfl:j=l.length:=by omega
    rw[List.take_length]at htk;have hz:(eF (l.length-i) zS).length=(l.length-i)*8:=by rw[jW];rfl
    have hle:i<=l.length:=by omega
    have hml:=eL hmR;refine Y16 ?_;refine aB (ni (by exact rfl) (by exact rfl) (by assumption) (by omega)) ?_;refine aB (DP (z:=zS) (by exact rfl) (by omega) gb (by rw[hz,List.length_append,hml];omega) (by exact zL _) rfl) ?_;refine Y4 ?_;refine aB (qv (by exact rfl) (by exact rfl) YG (by omega) (by omega)) ?_;refine Y3 ?_;refine mF (uV hlg ⟨_,_,rfl⟩) rfl ?_;have hi2:(l.filter λr=> !P r).length=i:=by
     rw[←htk,List.length_take];omega
    obtain⟨t',ht'⟩:=vY (t:=tl) (i:=i) (ws:=cQ (ssL m++tl) (0+i*8) (eF (l.length-i) zS)) hmR (by omega) htk (by rw[hm]);refine .inr ⟨b,UNK,t',hb1,hbn,?_,?_,by unfold UNK;omega,λ_=>rfl⟩
    ·rw[z6,gb,z7,ht']
    ·rw[hi2];rfl
 ·obtain⟨h1,h2⟩:=B8 P l 0 hi;rw[h1];refine Y14 ?_;refine mF (by rw[hr.log];intro z hz;cases hz) rfl ?_;show OwS lo h (.slice a l.length c) _;rw[List.filter_eq_self.2 (λx hx=>by rw[h2 x hx];rfl)];exact q
def ddS:List (List Nat)->List (List Nat)
 |a::b::l=>if a=b then ddS (b::l)else a::ddS (b::l)
 |l=>l
theorem vQ:∀(l:List (List Nat)) (y x:List Nat),ddS (l++[y,x])=if y=x then ddS (l++[y])else ddS (l++[y])++[x]
 |[],y,x=>by
  show(if y=x then [x]else y::[x])=if y=x then [y]else [y]++[x]
  by_cases h:y=x
  ·rw[if_pos h,if_pos h,h]
  ·rw[if_neg h,if_neg h];rfl
 |[a],y,x=>by
  have ih:=vQ [] y x;simp only[List.nil_append]at ih;show(if a=y then ddS (y::[x])else a::ddS (y::[x]))=_;have e:ddS ([a]++[y])=if a=y then ddS [y]else a::ddS [y]:=rfl
  rw[e,ih];by_cases h:a=y
  ·simp only[if_pos h]
  ·simp only[if_neg h];by_cases h2:y=x
   ·simp only[if_pos h2]
   ·simp only[if_neg h2];rfl
 |a::b::l,y,x=>by
  have ih:=vQ (b::l) y x;show(if a=b then ddS (b::l++[y,x])else a::ddS (b::l++[y,x]))=_;have e:ddS (a::b::l++[y])=if a=b then ddS (b::l++[y])else a::ddS (b::l++[y]):=rfl
  rw[e,ih];by_cases h:a=b
  ·simp only[if_pos h]
  ·simp only[if_neg h];by_cases h2:y=x
   ·simp only[if_pos h2]
   ·simp only[if_neg h2];rfl
theorem Cc{l:List (List Nat)}{k:Nat}{y x:List Nat}(hy:l[k]? =some y)(hx:l[k+1]? =some x):ddS (l.take (k+1+1))=if y=x then ddS (l.take (k+1))else ddS (l.take (k+1))++[x]:=by
 rw[dS hx,dS hy,List.append_assoc];exact vQ _ y x
theorem mW:∀{l:List (List Nat)} {x:List Nat},x∈ddS l->x∈l
 |[],_,h=>h
 |[a],_,h=>h
 |a::b::l,x,h=>by
  unfold ddS at h;by_cases e:a=b
  ·rw[if_pos e]at h;exact List.mem_cons_of_mem _ (mW h)
  ·rw[if_neg e]at h;rcases List.mem_cons.1 h with rfl|h
   ·exact List.mem_cons_self
   ·exact List.mem_cons_of_mem _ (mW h)
theorem sB:∀{l:List (List Nat)} {x:List Nat},x∈l->x∈ddS l
 |[],_,h=>h
 |[a],_,h=>h
 |a::b::l,x,h=>by
  unfold ddS;by_cases e:a=b
  ·rw[if_pos e];rcases List.mem_cons.1 h with rfl|h
   ·exact sB (by rw[e];exact List.mem_cons_self)
   ·exact sB h
  ·rw[if_neg e];rcases List.mem_cons.1 h with rfl|h
   ·exact List.mem_cons_self
   ·exact List.mem_cons_of_mem _ (sB h)
theorem yG{m l:List (List Nat)}{n:Nat}(h:m.drop n=l.drop n):m.drop (n+1)=l.drop (n+1):=by
 have:=congrArg (List.drop 1) h
 rwa [List.drop_drop,List.drop_drop]at this
theorem Ad:∀l:List (List Nat),(ddS l).length<=l.length
 |[]=>Nat.le_refl _
 |[a]=>Nat.le_refl _
 |a::b::l=>by
  have ih:=Ad (b::l);unfold ddS;by_cases e:a=b
  ·rw[if_pos e];exact Nat.le_succ_of_le ih
  ·rw[if_neg e];exact Nat.succ_le_succ ih
theorem vV(hp:aP T)(hf:T 192=some f192){h:Heap}(hr:Rdy h){lo:Nat}{l:List (List Nat)}{v:Value}(q:OwS lo h v l)(hl:∀r∈l,IsS r)(hn:l.length<1000000):
 Gs T 192 [v] h (vB v) (λv h'=>OwS lo h' v (ddS l)):=by
 obtain⟨a,c,rfl⟩:=q.form;refine .of hp hf ?_ ?_
 ·intro v h1 h2 hv hn2 hag hq;exact OwS.flat hv hq
 by_cases h2:l.length<2
 ·have e:ddS l=l:=by
   match l,h2 with
   |[],_=>rfl
   |[_],_=>rfl
  rw[e];have m1:ah .lss (.int .i64 (l.length:Nat)) (.int .i64 2)=some (.bool true):=dz (by omega);refine Y16 ?_;exact mF (by rw[hr.log];intro z hz;cases hz) rfl q
 have m0:ah .lss (.int .i64 (l.length:Nat)) (.int .i64 2)=some (.bool false):=dA (by omega);rcases q with⟨_,rfl⟩|⟨b,c',tl,hb1,hb2,hb3,hv,hcl,hcu⟩
 ·exact absurd (show([]:List (List Nat)).length<2 by decide) h2
 cases hv;obtain rfl:=hcu (λq=>by rw[q]at h2;simp at h2);refine Y17 ?_
 refine bD (λmm e ds h'=>∃k:Nat,k+1<=l.length/\l.length-(k+1)=mm/\e=[(0, .slice (some ⟨b,0,none⟩) l.length UNK),(3, .int .i64 ((k+1:Nat):Int))]/\ds=[]/\h=h'∧ddS (l.take (k+1))=l.take (k+1))
  ⟨0,by omega,rfl,rfl,rfl,rfl,?_⟩ ?_
 ·cases l with
  |nil=>rfl
  |cons a l=>rfl
 rintro mm e ds _ ⟨k,hk,rfl,rfl,rfl,rfl,hdd⟩;by_cases hlt:k+1<l.length
 ·obtain⟨x,hx⟩:∃r,l[k+1]? =some r:=⟨l[k+1],List.getElem?_eq_getElem hlt⟩;obtain⟨y,hy⟩:∃r,l[k]? =some r:=⟨l[k],List.getElem?_eq_getElem (by omega)⟩;have hxs:=hl x (List.mem_of_getElem? hx);have hys:=hl y (List.mem_of_getElem? hy);have hst:=Cc hy hx;have rx:=nS (t:=tl) hl hx;have ry:=nS (t:=tl) hl hy;have kx:=aG hxs.len;have ky:=aG hys.len;have mlt:ah .lss (.int .i64 ((k+1:Nat):Int)) (.int .i64 (l.length:Nat))=some (.bool true):=dz (by omega);have msb:ah .sub (.int .i64 ((k+1:Nat):Int)) (.int .i64 1)=some (.int .i64 ((k:Nat):Int)):=lP (by rw[bZ]<;>omega);by_cases hxy:y=x
  ·rw[if_pos hxy,hdd]at hst;refine Y23 ?_;refine aU rfl rfl rfl (by exact rfl) (by exact rfl) (by exact rfl) (iI (b:=y) (by exact rfl) (by exact rfl) hxs.len hys.len) ?_;rw[decide_eq_true hxy.symm];refine Y7 ?_;refine aB (ni (by exact rfl) (by exact rfl) (by assumption) (by omega)) ?_;refine Y7 ?_;refine bD (λmm e ds h'=>∃(k2 i:Nat) (m:List (List Nat)),k2+1<=l.length-(k+1)/\l.length-(k+1)-(k2+1)=mm/\e=[(0, .slice (some ⟨b,0,none⟩) l.length UNK),(3, .int .i64 (i:Nat)),(4, .slice (some ⟨b,0+(k+1)*8,none⟩) (l.length-(k+1)) UNK),(5, .int .i64 ((k2+1:Nat):Int))]/\ds=[]∧
    WF h'∧h.next<=h'.next/\(∀z,z<lo->h'.get z=h.get z)/\(∀z∈h'.log,vB (.slice (some ⟨b,0,none⟩) l.length UNK) z)/\h'.get b=some (.cells (ssL m++tl) true 8)/\m.length=l.length/\(∀r∈m,IsS r)/\i<=k+1+k2/\m.take i=ddS (l.take (k+1+k2+1))/\m.drop (k+1+k2)=l.drop (k+1+k2))
    ⟨0,k+1,l,by omega,rfl,rfl,rfl,hr.wf,Nat.le_refl _,λ_ _=>rfl,(by rw[hr.log];intro z hz;cases hz),hb3,rfl,hl,Nat.le_refl _,hst.symm,rfl⟩ ?_
   rintro mm e ds H ⟨k2,i,m,hk2,rfl,rfl,rfl,hw,hnx,hold,hlg,gb,hm,hmR,hik,htk,hdr⟩;have hbn:b<H.next:=WF.hM hw gb
   clear hx hy hxs hys hst rx ry kx ky mlt msb hxy;by_cases hlt2:k2+1<l.length-(k+1)
   ·obtain⟨x',hx'⟩:∃r,l[k+1+k2+1]? =some r:=⟨l[k+1+k2+1],List.getElem?_eq_getElem (by omega)⟩;obtain⟨y',hy'⟩:∃r,l[k+1+k2]? =some r:=⟨l[k+1+k2],List.getElem?_eq_getElem (by omega)⟩;have mx:m[k+1+k2+1]? =some x':=by
     have e1:(m.drop (k+1+k2))[1]? =(l.drop (k+1+k2))[1]? :=by rw[hdr]
     rw[List.getElem?_drop,List.getElem?_drop]at e1;exact e1.trans hx'
    have my:m[k+1+k2]? =some y':=by
     have e1:(m.drop (k+1+k2))[0]? =(l.drop (k+1+k2))[0]? :=by rw[hdr]
     rw[List.getElem?_drop,List.getElem?_drop]at e1;exact e1.trans hy'
    have hxs:=hmR x' (List.mem_of_getElem? mx);have hys:=hmR y' (List.mem_of_getElem? my);have hst:=Cc hy' hx';have rx:=nS (t:=tl) hmR mx;have ry:=nS (t:=tl) hmR my;rw[show 0+(k+1+k2+1)*8=0+(k+1)*8+(k2+1)*8 by omega]at rx;rw[show 0+(k+1+k2)*8=0+(k+1)*8+k2*8 by omega]at ry;have kx:=aG hxs.len;have ky:=aG hys.len;have mlt:ah .lss (.int .i64 ((k2+1:Nat):Int)) (.int .i64 ((l.length-(k+1):Nat):Int))=some (.bool true):=dz (by omega);have msb:ah .sub (.int .i64 ((k2+1:Nat):Int)) (.int .i64 1)=some (.int .i64 ((k2:Nat):Int)):=lP (by rw[bZ]<;>omega);by_cases hxy:y'=x'
    ·rw[if_pos hxy]at hst;refine Y23 ?_;refine aU rfl rfl rfl (by exact rfl) (by exact rfl) (by exact rfl) (iI (b:=y') (by exact rfl) (by exact rfl) hxs.len hys.len) ?_;rw[decide_eq_true hxy.symm];refine Y12 ?_;exact⟨l.length-(k+1)-(k2+1+1),by omega,k2+1,i,m,by omega,rfl,rfl,rfl,hw,hnx,hold,hlg,gb,hm,hmR,by omega,by rw[htk,←hst];rfl,yG hdr⟩
    ·rw[if_neg hxy]at hst;have kc:=Ay (t:=tl) hmR hxs (i:=i) (by omega);have kw:cQ (ssL m++tl) (0+i*8) (cellsOf (sv x'))=ssL (m.set i x')++tl:=by
      have e:cellsOf (sv x')=us x':=by show(us x').toArray.toList=_;simp
      rw[e,Aj hmR hxs (by omega)]
     refine Y23 ?_;refine aU rfl rfl rfl (by exact rfl) (by exact rfl) (by exact rfl) (iI (b:=y') (by exact rfl) (by exact rfl) hxs.len hys.len) ?_;rw[decide_eq_false (Ne.symm hxy)];refine Y12 ?_;refine aB (jm (by exact rfl) (by exact rfl) gb kc kw) ?_;refine Y5 ?_;refine cN ?_;refine Y8 ?_;refine⟨l.length-(k+1)-(k2+1+1),by omega,k2+1,i+1,m.set i x',by omega,rfl,rfl,rfl,hw.as (AS.wr h.next _ _ _),hnx,?_,uV hlg ⟨_,_,rfl⟩,?_,by rw[List.length_set];exact hm,?_,by omega,?_,?_⟩
     ·intro z hz;rw[z5 (by omega)];exact hold z hz
     ·rw[z6,gb];rfl
     ·intro r hx;rcases List.mem_or_eq_of_mem_set hx with hx|rfl
      ·exact hmR r hx
      ·exact hxs
     ·rw[xT (by omega),htk,←Nat.add_assoc,hst]
     ·rw[xJ (by omega)];exact yG hdr
   ·have hkl:k+1+k2+1=l.length:=by omega
    rw[hkl,List.take_length]at htk;have mlt:ah .lss (.int .i64 ((k2+1:Nat):Int)) (.int .i64 ((l.length-(k+1):Nat):Int))=some (.bool false):=dA (by omega);have hz:(eF (l.length-i) zS).length=(l.length-i)*8:=by rw[jW];rfl
    have hml:=eL hmR;refine Y16 ?_;refine aB (ni (by exact rfl) (by exact rfl) (by assumption) (by omega)) ?_;refine aB (DP (z:=zS) (by exact rfl) (by omega) gb (by rw[hz,List.length_append,hml];omega) (by exact zL _) rfl) ?_;refine Y4 ?_;refine aB (qv (by exact rfl) (by exact rfl) YG (by omega) (by omega)) ?_;refine Y8 ?_;refine mF (uV hlg ⟨_,_,rfl⟩) rfl ?_;have hi2:(ddS l).length=i:=by
     rw[←htk,List.length_take];omega
    obtain⟨t',ht'⟩:=vY (t:=tl) (i:=i) (ws:=cQ (ssL m++tl) (0+i*8) (eF (l.length-i) zS)) hmR (by omega) htk (by rw[hm]);refine .inr ⟨b,UNK,t',hb1,hbn,?_,?_,by unfold UNK;omega,λ_=>rfl⟩
    ·rw[z6,gb,z7,ht']
    ·rw[hi2];rfl
  ·rw[if_neg hxy,hdd,←dS hx]at hst;refine Y23 ?_;refine aU rfl rfl rfl (by exact rfl) (by exact rfl) (by exact rfl) (iI (b:=y) (by exact rfl) (by exact rfl) hxs.len hys.len) ?_;rw[decide_eq_false (Ne.symm hxy)];refine Y12 ?_;exact⟨l.length-(k+1+1),by omega,k+1,by omega,rfl,rfl,rfl,rfl,hst⟩
 ·have hkl:k+1=l.length:=by omega
  rw[hkl,List.take_length]at hdd;have mlt:ah .lss (.int .i64 ((k+1:Nat):Int)) (.int .i64 (l.length:Nat))=some (.bool false):=dA (by omega);refine Y18 ?_;refine mF (by rw[hr.log];intro z hz;cases hz) rfl ?_;rw[hdd];exact .inr ⟨b,UNK,tl,hb1,hb2,hb3,rfl,hcl,λ_=>rfl⟩
end Go.A.Pk
end
