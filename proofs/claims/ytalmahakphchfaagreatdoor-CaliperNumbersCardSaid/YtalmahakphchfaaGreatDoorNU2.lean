/- Walks of functions, plain laws, the table. -/
import Derived.Test.YtalmahakphchfaaGreatDoorNU1
import Derived.Test.YtalmahakphchfaaGreatDoorND
import Derived.Test.YtalmahakphchfaaGreatDoorNV
import Derived.Test.YtalmahakphchfaaGreatDoorNF
import Derived.Sort.Row
import Derived.Sort.Grow
import Derived.Test.YtalmahakphchfaaGreatDoorNU0
set_option linter.all false
set_option maxHeartbeats 16000000
set_option maxRecDepth 100000
section
namespace Go.A.Pk
variable {T:Nat->Option af}
structure FxL (P:List Fi->Heap->Prop) (W:Heap->Nat->Prop) (lo:Nat) (h0:Heap) (q0 q:Nat) (rm bp:Bx) (p:List Nat) (D:List Fi) (g:Heap):Prop where
 k:Lk lo h0 g
 pd:P D g
 dm:((∀x,x<h0.next->g.get x=h0.get x)/\P D h0)∨q0∈g.log/\CE g q0
 nx:q+2<g.next
 g4:g.get h0.next=some (.cells (bxL rm) true 1)
 g7:g.get q=some (.cells (psL p bp) true 1)
 g8:g.get (q+1)=some (.cells (ceL bp.lo) true 1)
 g9:g.get (q+2)=some (.cells (ceL bp.hi) true 1)
 w4:¬W g h0.next
 w7:¬W g q
 w8:¬W g (q+1)
 w9:¬W g (q+2)
def cmpL:List Nat->List Nat->Int
 |a::l,b::m=>if a<b then -1 else if b<a then 1 else cmpL l m
 |_,_=>0
abbrev CeQ(h:Heap)(v:Value)(l:List Ce):Prop:=bS h 3 v l.length (ceS l)
theorem CeQ.elem{h:Heap}{v:Value}{l:List Ce}(s:CeQ h v l){i:Nat}{x:Ce}(hi:l[i]? =some x):
 ∃b o c vs own t,v= .slice (some ⟨b,o,none⟩) l.length c/\h.get b=some (.cells vs own t)/\b<h.next/\bB 3 (bA (o+i*3) vs)=ceL x/\aT vs (o+i*3+0)=some (.int .i64 x.x)/\aT vs (o+i*3+1)=some (.int .i64 x.y)/\aT vs (o+i*3+2)=some (.int .i64 x.z):=by
 have hlt:=(List.getElem?_eq_some_iff.1 hi).1;rcases bS.inv s with⟨_,_,h0,_⟩|⟨b,o,cap,hv,s1,hc⟩
 ·omega
 ·obtain⟨vs,own,t,g1,g2⟩:=s1.obj;have hsp:∀(l:List Ce) (i:Nat),l[i]? =some x->((ceS l).drop (i*3)).take 3=ceL x:=by
   intro l;induction l with
   |nil=>intro i h;simp at h
   |cons c l ih=>
    intro i h;cases i with
    |zero=>simp at h;subst h;rfl
    |succ i=>
     have e:ceS (c::l)=ceL c++ceS l:=rfl;rw[e,show(i+1)*3=3+i*3 by omega,←List.drop_drop];exact ih i (by simpa using h)
  have e:=hsp l i hi;rw[←g2]at e;have e2:bB 3 (bA (o+i*3) vs)=ceL x:=by
   rw[←e];simp only[cZ,cw,List.drop_take,List.take_take,List.drop_drop];congr 1;omega
  have e3:∀j v,j<3->(ceL x)[j]? =some v->aT vs (o+i*3+j)=some v:=by
   intro j v hj h;rw[←e2,cZ,cw,List.getElem?_take_of_lt hj,List.getElem?_drop]at h;rw[cA];exact h
  exact⟨b,o,cap,vs,own,t,hv,g1,s1.lt,e2,e3 0 _ (by omega) rfl,e3 1 _ (by omega) rfl,e3 2 _ (by omega) rfl⟩
theorem C7(F:FC T)(hf:T 159=some f84){h:Heap}(hr:Rdy h){s:List Nat}(hs:IsS s):Pu T 159 [sv s] h (.int .i64 ((dW s:Nat):Int)):=by
 refine .of F.hr.p hf hr rfl ?_;have k8:=aR hs.len;have k9:=bR hs.len;have x0:Ext h (h.push (.cells (cellsOf (sv s)) true 1)):=(Ext.refl h).push _;have g0:(h.push (.cells (cellsOf (sv s)) true 1)).get h.next=some (.cells (us s) true 1):=z3 h _
 refine Y4 ?_;generalize(h.push (.cells (cellsOf (sv s)) true 1))=H at*;have W:=x0.wf hr.wf;have hL:=x0.log.trans hr.log;have hle:=gW s 512;have C:=qo F (h:={H with log:=[]}) (.of W) hs;unfold dW;refine Y3 ?_;refine FW.al C (λv h' m q=>q.log m) ?_;rintro v H1 x1 q;clear C;have hL1:=x1.log.trans hL;obtain⟨a,c,rfl⟩:=(q.slice (by omega)).form;refine Y4 ?_;exact ak hL1 rfl rfl
theorem DT(hp:aV T)(hf:T 177=some f221){h:Heap}(hr:Rdy h){o:List Nat}(ho:IsS o){c:Ce}(hc:inG c=true):Pu T 177 [sv o,ceV c] h (sv (kW o c)):=by
 refine .of hp hf hr (jk _) ?_;have hk:=ho.kW hc;obtain⟨z,i,hz,hi,rfl⟩:=iB hc;have e1:=pX (jI (s:=o) (i:=z) (by rw[ho.len];exact hz));have m1:=QG (a:=o.getD z 0) (b:=2 ^ i) (ho.jJ z) (qS hi);have k4:ah .mul (.int .i64 8) (.int .i64 (eC z i).y)=some (.int .i64 (8*((i / 8:Nat):Int))):=Dn (b:=((i / 8:Nat):Int)) (by omega) (by omega);have k5:ah .add (.int .i64 (8*((i / 8:Nat):Int))) (.int .i64 (eC z i).x)=some (.int .i64 ((i:Nat):Int)):=iD (b:=((i % 8:Nat):Int)) (by rw[bJ]<;>omega);have k6:=BP (k:= .u64) hi;have k7:fG .u64 ((i:Nat):Int)=((i:Nat):Int):=mj (by omega);have kw:=zC (o:=o) (z:=z) (v:=Nat.lor (o.getD z 0) (2 ^ i)) (by rw[ho.len];exact hz);rw[←tM o hi]at kw;have kc:(Nat.beq (bK (cellsOf (.int .u64 ((Nat.lor (o.getD z 0) (2 ^ i):Nat):Int)))) 1&&Nat.ble (0+z*1+1) (bK (us o))&&cK (cellsOf (.int .u64 ((Nat.lor (o.getD z 0) (2 ^ i):Nat):Int))))=true:=by
  rw[bM (us o),aI,ho.len,eT (by omega)];rfl
 have lz:aT (ceL (eC z i)) (0+2)=some (.int .i64 ((z:Nat):Int)):=rfl;have g0:(((h.push (.cells (cellsOf (sv o)) true 1)).push (.cells (cellsOf (ceV (eC z i))) true 1)).push (.cells (aL 8 (.int .u64 0)) true 1)).get h.next=some (.cells (us o) true 1):=YG
 have g1:(((h.push (.cells (cellsOf (sv o)) true 1)).push (.cells (cellsOf (ceV (eC z i))) true 1)).push (.cells (aL 8 (.int .u64 0)) true 1)).get (h.next+1)=some (.cells (ceL (eC z i)) true 1):=YG;have g2:(((h.push (.cells (cellsOf (sv o)) true 1)).push (.cells (cellsOf (ceV (eC z i))) true 1)).push (.cells (aL 8 (.int .u64 0)) true 1)).get (h.next+2)=some (.cells (aL 8 (.int .u64 0)) true 1):=YG;have x0:Ext h (((h.push (.cells (cellsOf (sv o)) true 1)).push (.cells (cellsOf (ceV (eC z i))) true 1)).push (.cells (aL 8 (.int .u64 0)) true 1)):=(((Ext.refl h).push _).push _).push _;have n0:(((h.push (.cells (cellsOf (sv o)) true 1)).push (.cells (cellsOf (ceV (eC z i))) true 1)).push (.cells (aL 8 (.int .u64 0)) true 1)).next=h.next+3:=rfl
 refine Y5 ?_;generalize(((h.push (.cells (cellsOf (sv o)) true 1)).push (.cells (cellsOf (ceV (eC z i))) true 1)).push (.cells (aL 8 (.int .u64 0)) true 1))=H at*;have hL:=x0.log.trans hr.log;have k1:=bR hk.len;have k2:=aR hk.len;have k3:=hk.len;refine Y14 ?_;refine cD rfl rfl rfl (by exact rfl) (by exact rfl) (by exact rfl) (xy (by exact rfl) (by assumption)) ?_;refine Y3 ?_;refine eG (vs:=us o) (ws:=us (kW o (eC z i))) rfl rfl rfl (by exact rfl) (by exact rfl) (by exact rfl) g0 kc kw (by omega) (by(repeat apply aK rfl);exact bV) ?_;generalize kW o (eC z i)=o' at*;refine Y4 ?_;refine aA (cQ (by exact rfl) YG (by assumption) (by assumption)) ?_;refine aA (bh (by exact rfl) (by exact rfl) YG (by(simp only[aI];assumption)) (by exact rfl) (by exact cg _)) ?_;refine y3 ?_;refine vw ?_;refine ak ?_ (bH (own:=true) (s:=1) rfl ?_ k1 k2 rfl) rfl
 ·rw[Heap.aq (by show h.next<=h.next+2;omega),Heap.aq (Nat.le_refl _)];exact hL
 ·exact YG
theorem OH(hp:aV T)(hf:T 184=some f267){h:Heap}(hr:Rdy h){c:Ce}(hc:InB c):Pu T 184 [ceV c, .int .i64 0] h (ceV (dM 0 c)):=by
 refine .of hp hf hr rfl ?_;obtain⟨cx,cy,cz⟩:=c;obtain⟨hx,hy,hz⟩:=hc;dsimp only at hx hy hz;have mx:=dn hx;have my:=dn hy;have mz:=dn hz;have q1:ah .eql (.int .i64 0) (.int .i64 1)=some (.bool false):=rfl;have q2:ah .eql (.int .i64 0) (.int .i64 2)=some (.bool false):=rfl;have q3:ah .eql (.int .i64 0) (.int .i64 3)=some (.bool false):=rfl;have q4:ah .eql (.int .i64 0) (.int .i64 4)=some (.bool false):=rfl;have q5:ah .eql (.int .i64 0) (.int .i64 5)=some (.bool false):=rfl;have ck:bB 3 (bA 0 (ceL (dM 0 ⟨cx,cy,cz⟩)))=ceL (dM 0 ⟨cx,cy,cz⟩):=rfl;refine Y40 ?_;refine Y2 ?_;refine ak ?_ (bH (own:=true) (s:=1) rfl ?_ ck rfl rfl) rfl
 ·rw[Heap.aq (by show h.next<=h.next+1;omega)];exact hr.log
 ·exact YG
theorem OI(hp:aV T)(hf:T 184=some f267){h:Heap}(hr:Rdy h){c:Ce}(hc:InB c):Pu T 184 [ceV c, .int .i64 1] h (ceV (dM 1 c)):=by
 refine .of hp hf hr rfl ?_;obtain⟨cx,cy,cz⟩:=c;obtain⟨hx,hy,hz⟩:=hc;dsimp only at hx hy hz;have mx:=dn hx;have my:=dn hy;have mz:=dn hz;have q1:ah .eql (.int .i64 1) (.int .i64 1)=some (.bool true):=rfl;have ck:bB 3 (bA 0 (ceL (dM 1 ⟨cx,cy,cz⟩)))=ceL (dM 1 ⟨cx,cy,cz⟩):=rfl;refine Y28 ?_;refine ak ?_ (bH (own:=true) (s:=1) rfl ?_ ck rfl rfl) rfl
 ·rw[Heap.aq (by show h.next<=h.next+1;omega)];exact hr.log
 ·exact YG
theorem OJ(hp:aV T)(hf:T 184=some f267){h:Heap}(hr:Rdy h){c:Ce}(hc:InB c):Pu T 184 [ceV c, .int .i64 2] h (ceV (dM 2 c)):=by
 refine .of hp hf hr rfl ?_;obtain⟨cx,cy,cz⟩:=c;obtain⟨hx,hy,hz⟩:=hc;dsimp only at hx hy hz;have mx:=dn hx;have my:=dn hy;have mz:=dn hz;have q1:ah .eql (.int .i64 2) (.int .i64 1)=some (.bool false):=rfl;have q2:ah .eql (.int .i64 2) (.int .i64 2)=some (.bool true):=rfl;have ck:bB 3 (bA 0 (ceL (dM 2 ⟨cx,cy,cz⟩)))=ceL (dM 2 ⟨cx,cy,cz⟩):=rfl;refine Y34 ?_;refine ak ?_ (bH (own:=true) (s:=1) rfl ?_ ck rfl rfl) rfl
 ·rw[Heap.aq (by show h.next<=h.next+1;omega)];exact hr.log
 ·exact YG
theorem OK(hp:aV T)(hf:T 184=some f267){h:Heap}(hr:Rdy h){c:Ce}(hc:InB c):Pu T 184 [ceV c, .int .i64 3] h (ceV (dM 3 c)):=by
 refine .of hp hf hr rfl ?_;obtain⟨cx,cy,cz⟩:=c;obtain⟨hx,hy,hz⟩:=hc;dsimp only at hx hy hz;have mx:=dn hx;have my:=dn hy;have mz:=dn hz;have q1:ah .eql (.int .i64 3) (.int .i64 1)=some (.bool false):=rfl;have q2:ah .eql (.int .i64 3) (.int .i64 2)=some (.bool false):=rfl;have q3:ah .eql (.int .i64 3) (.int .i64 3)=some (.bool true):=rfl;have ck:bB 3 (bA 0 (ceL (dM 3 ⟨cx,cy,cz⟩)))=ceL (dM 3 ⟨cx,cy,cz⟩):=rfl;refine Y38 ?_;refine ak ?_ (bH (own:=true) (s:=1) rfl ?_ ck rfl rfl) rfl
 ·rw[Heap.aq (by show h.next<=h.next+1;omega)];exact hr.log
 ·exact YG
theorem OL(hp:aV T)(hf:T 184=some f267){h:Heap}(hr:Rdy h){c:Ce}(hc:InB c):Pu T 184 [ceV c, .int .i64 4] h (ceV (dM 4 c)):=by
 refine .of hp hf hr rfl ?_;obtain⟨cx,cy,cz⟩:=c;obtain⟨hx,hy,hz⟩:=hc;dsimp only at hx hy hz;have mx:=dn hx;have my:=dn hy;have mz:=dn hz;have q1:ah .eql (.int .i64 4) (.int .i64 1)=some (.bool false):=rfl;have q2:ah .eql (.int .i64 4) (.int .i64 2)=some (.bool false):=rfl;have q3:ah .eql (.int .i64 4) (.int .i64 3)=some (.bool false):=rfl;have q4:ah .eql (.int .i64 4) (.int .i64 4)=some (.bool true):=rfl;have ck:bB 3 (bA 0 (ceL (dM 4 ⟨cx,cy,cz⟩)))=ceL (dM 4 ⟨cx,cy,cz⟩):=rfl;refine Y40 ?_;refine Y3 ?_;refine ak ?_ (bH (own:=true) (s:=1) rfl ?_ ck rfl rfl) rfl
 ·rw[Heap.aq (by show h.next<=h.next+1;omega)];exact hr.log
 ·exact YG
theorem OM(hp:aV T)(hf:T 184=some f267){h:Heap}(hr:Rdy h){c:Ce}(hc:InB c):Pu T 184 [ceV c, .int .i64 5] h (ceV (dM 5 c)):=by
 refine .of hp hf hr rfl ?_;obtain⟨cx,cy,cz⟩:=c;obtain⟨hx,hy,hz⟩:=hc;dsimp only at hx hy hz;have mx:=dn hx;have my:=dn hy;have mz:=dn hz;have q1:ah .eql (.int .i64 5) (.int .i64 1)=some (.bool false):=rfl;have q2:ah .eql (.int .i64 5) (.int .i64 2)=some (.bool false):=rfl;have q3:ah .eql (.int .i64 5) (.int .i64 3)=some (.bool false):=rfl;have q4:ah .eql (.int .i64 5) (.int .i64 4)=some (.bool false):=rfl;have q5:ah .eql (.int .i64 5) (.int .i64 5)=some (.bool true):=rfl;have ck:bB 3 (bA 0 (ceL (dM 5 ⟨cx,cy,cz⟩)))=ceL (dM 5 ⟨cx,cy,cz⟩):=rfl;refine Y40 ?_;refine Y8 ?_;refine ak ?_ (bH (own:=true) (s:=1) rfl ?_ ck rfl rfl) rfl
 ·rw[Heap.aq (by show h.next<=h.next+1;omega)];exact hr.log
 ·exact YG
theorem ON(hp:aV T)(hf:T 184=some f267){h:Heap}(hr:Rdy h){c:Ce}(hc:InB c):∀k:Nat,k<6->Pu T 184 [ceV c, .int .i64 (k:Nat)] h (ceV (dM k c))
 |0,_=>OH hp hf hr hc
 |1,_=>OI hp hf hr hc
 |2,_=>OJ hp hf hr hc
 |3,_=>OK hp hf hr hc
 |4,_=>OL hp hf hr hc
 |5,_=>OM hp hf hr hc
 |k+6,h=>by omega
theorem Fm(hp:aV T)(hf:T 178=some f222)(hf2:T 184=some f267){h:Heap}(hr:Rdy h){c:Ce}(hc:InB c){t:Nat}(ht:t<24):Pu T 178 [ceV c, .int .i64 (t:Nat)] h (ceV (gH t c)):=by
 refine .of hp hf hr rfl ?_;have x0:Ext h ((h.push (.cells (cellsOf (ceV c)) true 1)).push (.cells [I.O,I.O,I.O] true 1)):=((Ext.refl h).push _).push _;have ga:((h.push (.cells (cellsOf (ceV c)) true 1)).push (.cells [I.O,I.O,I.O] true 1)).get h.next=some (.cells (ceL c) true 1):=(z4 (Nat.lt_succ_self _)).trans (z3 h _)
 have gb:((h.push (.cells (cellsOf (ceV c)) true 1)).push (.cells [I.O,I.O,I.O] true 1)).get (h.next+1)=some (.cells [I.O,I.O,I.O] true 1):=z3 _ _;have n0:((h.push (.cells (cellsOf (ceV c)) true 1)).push (.cells [I.O,I.O,I.O] true 1)).next=h.next+2:=rfl
 refine Y4 ?_;generalize((h.push (.cells (cellsOf (ceV c)) true 1)).push (.cells [I.O,I.O,I.O] true 1))=H at*;have W:=x0.wf hr.wf;have hL:=x0.log.trans hr.log;have hk:t / 4<6:=by omega
 have m1:ah .quo (.int .i64 (t:Nat)) (.int .i64 4)=some (.int .i64 ((t / 4:Nat):Int)):=Hu (by omega);have m2:ah .rem (.int .i64 (t:Nat)) (.int .i64 4)=some (.int .i64 ((t % 4:Nat):Int)):=Hv;have C:=ON hp hf2 (h:={H with log:=[]}) (.of W) hc (t / 4) hk;have hb:=hc.OG (t / 4);have ck:bB 3 (bA 0 (ceL c))=ceL c:=rfl;have ckl:Nat.beq (bK (ceL c)) 3=true:=rfl;have hr4:t % 4<4:=by omega
 unfold gH;generalize hq:dM (t / 4) c=d at*;generalize t / 4=k at*;generalize hrr:t % 4=r at*;refine Y5 ?_;refine FW.pu C ?_;clear C;refine Y7 ?_
 refine bW (λm e ds h'=>∃j:Nat,j<=r/\r-j=m/\e=[(1, .int .i64 (t:Nat)),(2, .pointer (some ⟨h.next,0,none⟩)),(4, .pointer (some ⟨h.next+1,0,none⟩)),(5, .int .i64 (j:Nat))]/\ds=[]/\Ext h h'∧h.next+2<=h'.next/\h'.get h.next=some (.cells (ceL (qU j d)) true 1)/\h'.get (h.next+1)=some (.cells [I.O,I.O,I.O] true 1))
  ⟨0,Nat.zero_le _,rfl,rfl,rfl,⟨x0.next,(Heap.aq (by omega)).trans x0.log,λb hb=>(z5 (by omega)).trans (x0.old b hb),λw=>(x0.wf w).as (AS.wr h.next _ _ _)⟩,by show h.next+2<=H.next;omega,by rw[z6,ga];rfl,(z5 (by omega)).trans gb⟩ ?_
 rintro m e ds h' ⟨j,hj,rfl,rfl,rfl,x,hn,gc,gd⟩;have hbj:=hb.rot j;by_cases hlt:j<r
 ·have hro:qU (j+1) d=EW (qU j d):=rfl;generalize qU j d=b at*;obtain⟨bx,by',bz⟩:=b;obtain⟨_,hy,_⟩:=hbj;dsimp only at hy;have my:=dn hy;unfold EW at hro;dsimp only at hro;have mlt:ah .lss (.int .i64 (j:Nat)) (.int .i64 (r:Nat))=some (.bool true):=dG (by omega);refine Y22 ?_;refine aO ?_;refine Y8 ?_;refine⟨r-(j+1),by omega,j+1,by omega,rfl,rfl,rfl,⟨x.next,(Heap.aq (by omega)).trans x.log,λb hb=>(z5 (by omega)).trans (x.old b hb),λw=>(x.wf w).as (AS.wr h.next _ _ _)⟩,hn,?_,(z5 (by omega)).trans gd⟩;rw[z6,gc,hro];rfl
 ·obtain rfl:j=r:=by omega
  generalize qU j d=b at*;have ckb:bB 3 (bA 0 (ceL b))=ceL b:=rfl;have ckbl:Nat.beq (bK (ceL b)) 3=true:=rfl;have mlt:ah .lss (.int .i64 (j:Nat)) (.int .i64 (j:Nat))=some (.bool false):=dJ (by omega);refine Y18 ?_;refine ak ?_ (bH (own:=true) (s:=1) rfl ?_ ckb ckbl rfl) rfl
  ·rw[Heap.aq (by show h.next<=h.next+1;omega)];exact x.log.trans hr.log
  ·exact YG
structure xq (T:Nat->Option af):Prop where
 cr:FC T
 f137:T 160=some f137
 f139:T 162=some f139
 f221:T 177=some f221
 f222:T 178=some f222
 f223:T 179=some f223
 f224:T 180=some f224
 f267:T 184=some f267
theorem DL(s:List Nat)(n:Int):cT (.tuple #[sv s, .int .i64 n])=true:=by
 have q:flat (sv s)=true:=zD s;show iP [sv s, .int .i64 n]=true;simp only[iP,q,cond_true];rfl
theorem sE{α:Type}{l:List α}{j:Nat}{x:α}(h:l[j]? =some x):l.take (j+1)=l.take j++[x]:=by
 rw[List.take_add_one,h];rfl
theorem Fl(F:xq T){h:Heap}(hr:Rdy h){s:List Nat}(hs:IsS s){t:Nat}(ht:t<24):Pu T 160 [sv s, .int .i64 (t:Nat)] h (.tuple #[sv (ek s t), .int .i64 0]):=by
 have hp:=F.cr.hr.p;refine .of hp F.f137 hr (DL _ 0) ?_;have k8:=aR hs.len;have k9:=bR hs.len;have x0:Ext h ((h.push (.cells (cellsOf (sv s)) true 1)).push (.cells (aL 8 (.int .u64 0)) true 1)):=((Ext.refl h).push _).push _;have g0:((h.push (.cells (cellsOf (sv s)) true 1)).push (.cells (aL 8 (.int .u64 0)) true 1)).get h.next=some (.cells (us s) true 1):=YG
 have g1:((h.push (.cells (cellsOf (sv s)) true 1)).push (.cells (aL 8 (.int .u64 0)) true 1)).get (h.next+1)=some (.cells (aL 8 (.int .u64 0)) true 1):=YG;have n0:((h.push (.cells (cellsOf (sv s)) true 1)).push (.cells (aL 8 (.int .u64 0)) true 1)).next=h.next+2:=rfl
 refine Y5 ?_;generalize((h.push (.cells (cellsOf (sv s)) true 1)).push (.cells (aL 8 (.int .u64 0)) true 1))=H at*;have W:=x0.wf hr.wf;have hL:=x0.log.trans hr.log;have m1:ah .lss (.int .i64 (t:Nat)) (.int .i64 0)=some (.bool false):=dJ (by omega);have m2:ah .gtr (.int .i64 (t:Nat)) (.int .i64 23)=some (.bool false):=jB (by omega);refine Y14 ?_;refine aX (E0:=[(1, .int .i64 (t:Nat)),(2, .pointer (some ⟨h.next,0,none⟩)),(4, .pointer (some ⟨h.next+1,0,none⟩)),(6, .pointer (some ⟨H.next,0,none⟩))]) (P:=λh'=>Ext H h'∧h'.next=H.next+1/\h'.get H.next=some (.cells (us s0) true 1)) ?_ ?_
 ·refine Y2 ?_;refine aO ?_;refine y1 ?_;exact⟨rfl,rfl,rfl,(Ext.refl H).push _,rfl,YG⟩
 rintro H1 ⟨x1,n1,q1⟩;have ey1':=x0.trans x1;have W1:=ey1'.wf hr.wf;have hL1:=x1.log.trans hL;have ga:=(x1.old _ (by omega)).trans g0;have gb:=(x1.old _ (by omega)).trans g1;have C:=qo F.cr (h:={H1 with log:=[]}) (.of W1) hs;have hin:∀c∈aW s 512,inG c=true:=λc hc=>jt hc;have hle:=gW s 512;unfold ek kT;generalize aW s 512=l at*;clear g0 g1;refine Y3 ?_;refine FW.al C (λv h' m q=>q.log m) ?_;rintro v H2 x2 q;clear C;have ey2':=ey1'.trans x2;have hL2:=x2.log.trans hL1;have n2:=x2.next
 have gb2:=(x2.old _ (by omega)).trans gb;have q12:=(x2.old _ (by omega)).trans q1;obtain⟨a,cc,rfl⟩:=(q.slice (by omega)).form;clear ga gb q1;refine Y7 ?_
 refine bW (λm e ds h'=>∃j:Nat,j<=l.length/\l.length-j=m/\e=[(1, .int .i64 (t:Nat)),(4, .pointer (some ⟨h.next+1,0,none⟩)),(6, .pointer (some ⟨H.next,0,none⟩)),(7, .slice a l.length cc),(8, .int .i64 (j:Nat))]/\ds=[]/\Ext h h'∧H1.next<=h'.next/\h'.get (h.next+1)=some (.cells (aL 8 (.int .u64 0)) true 1)/\h'.get H.next=some (.cells (us (jX (gH t) (l.take j))) true 1)/\Own H1.next h' 3 (.slice a l.length cc) l.length (ceS l))
  ⟨0,Nat.zero_le _,rfl,rfl,rfl,ey2',n2,gb2,q12,q⟩ ?_
 rintro m e ds h' ⟨j,hj,rfl,rfl,rfl,x,hn,gc,gd,ow⟩;have Wh:=x.wf hr.wf;have hLh:=x.log.trans hr.log;clear gb2 q12 q;by_cases hlt:j<l.length
 ·obtain⟨c,hc⟩:∃c,l[j]? =some c:=⟨l[j]'hlt,List.getElem?_eq_getElem _⟩;have hcl:=hin c (List.mem_of_getElem? hc);obtain⟨b,o,c2,vs,own,tt,hv,gl,hbl,el,_,_,_⟩:=CeQ.elem (ow.slice (by omega)) hc;cases hv;have hO:IsS (jX (gH t) (l.take j)):=oN λd hd=>oT d (hin d (List.mem_of_mem_take hd));have hs1:jX (gH t) (l.take (j+1))=kW (jX (gH t) (l.take j)) (gH t c):=by rw[sE hc,oO]
  generalize jX (gH t) (l.take j)=out at*;have C1:=Fm hp F.f222 F.f267 (h:={h' with log:=[]}) (.of Wh) (jK.1 hcl) ht;have hcl2:=oT (t:=t) c hcl;generalize gH t c=d at*;have C2:=DT hp F.f221 (h:={h' with log:=[]}) (.of Wh) hO hcl2;have hO2:=hO.kW hcl2;have k1:=bR hO.len;have k2:=aR hO.len;have k3:=aR hO2.len;have k4:=hO.len;have k5:=hO2.len;have mlt:ah .lss (.int .i64 (j:Nat)) (.int .i64 (l.length:Nat))=some (.bool true):=dG (by omega);refine Y17 ?_;refine cD rfl rfl rfl (by exact rfl) (by exact rfl) (by exact rfl) (cQ (by exact rfl) (by assumption) (by assumption) (by exact rfl)) ?_;refine Y2 ?_;refine FW.puD C1 (by(repeat apply aK rfl);apply aM rfl (aG rfl (cQ (by exact rfl) (by assumption) (by assumption) (by assumption)) (by exact wS _)) rfl;exact bV) ?_;clear C1;skip;refine qC ?_;refine FW.puD C2 (by apply aK rfl;exact bV) ?_;clear C2;refine Bh rfl rfl rfl (by exact rfl) (by exact rfl) (by exact rfl) (by assumption) (by(simp only[aI];assumption)) (by(simp only[aI];assumption)) (by exact cg _) (by omega) (by omega) (by exact bV) ?_;refine vt ?_;refine y1 ?_;refine Nz ?_;refine vE ?_;refine Y5 ?_;refine⟨l.length-(j+1),by omega,j+1,by omega,rfl,rfl,rfl,⟨x.next,(Heap.aq (by omega)).trans x.log,λb hb=>(z5 (by omega)).trans (x.old b hb),λw=>(x.wf w).as (AS.wr h.next _ _ _)⟩,hn,(z5 (by omega)).trans gc,?_,ow.keep (Nat.le_refl _) λz hz _=>z5 (by omega)⟩;rw[hs1];(simp(disch:=first|omega|(simp only[z1,z2];omega))only[z3,z4,z5,z6,z7,z1,z2,gc,gl,gd];done)
 ·obtain rfl:j=l.length:=by omega
  rw[List.take_length]at gd;have hO:IsS (jX (gH t) l):=oN λd hd=>oT d (hin d hd);generalize jX (gH t) l=out at*;have k1:=bR hO.len;have k2:=aR hO.len;have k3:=hO.len;have mlt:ah .lss (.int .i64 (l.length:Nat)) (.int .i64 (l.length:Nat))=some (.bool false):=dJ (by omega);refine Y7 ?_;refine yX ?_;refine zH ?_;refine Eg ?_;refine Eg ?_;refine Kz ?_;refine vE ?_;refine y4 ?_;refine yV ?_;refine aA (bh (by exact rfl) (by exact rfl) (by assumption) (by(simp only[aI];assumption)) (by exact rfl) (by exact cg _)) ?_;refine Y3 ?_;refine ak ?_ (bH (own:=true) (s:=1) rfl ?_ k1 k2 rfl) rfl
  ·rw[Heap.aq (by show h.next<=h.next+1;omega)];exact hLh
  ·exact YG
def shC(x y z:Int)(c:Ce):Ce:=⟨c.x+x,c.y+y,c.z+z⟩
def Sh7(n:Int):Prop:= -7<=n/\n<=7
theorem vo(hp:aV T)(hf:T 179=some f223){h:Heap}(hr:Rdy h){n:Int}(hn:Sh7 n):Pu T 179 [.int .i64 n] h (.bool true):=by
 refine .of hp hf hr rfl ?_;have m1:ah .geq (.int .i64 n) (.int .i64 (-7))=some (.bool true):=ye hn.1;have m2:ah .leq (.int .i64 n) (.int .i64 7)=some (.bool true):=kQ hn.2;refine Y15 ?_;exact ak hr.log rfl rfl
theorem HA(hp:aV T)(hf:T 180=some f224){h:Heap}(hr:Rdy h){c:Ce}(hc:InB c){x y z:Int}(hx:Sh7 x)(hy:Sh7 y)(hz:Sh7 z):Pu T 180 [ceV c, .int .i64 x, .int .i64 y, .int .i64 z] h (ceV (shC x y z c)):=by
 refine .of hp hf hr rfl ?_;obtain⟨cx,cy,cz⟩:=c;obtain⟨kx,ky,kz⟩:=hc;obtain⟨hx1,hx2⟩:=hx;obtain⟨hy1,hy2⟩:=hy;obtain⟨hz1,hz2⟩:=hz;dsimp only at kx ky kz;have mx:=iD (k:= .i64) (a:=cx) (b:=x) (bJ (by omega) (by omega));have my:=iD (k:= .i64) (a:=cy) (b:=y) (bJ (by omega) (by omega));have mz:=iD (k:= .i64) (a:=cz) (b:=z) (bJ (by omega) (by omega));have ck:bB 3 (bA 0 (ceL (shC x y z ⟨cx,cy,cz⟩)))=ceL (shC x y z ⟨cx,cy,cz⟩):=rfl;refine Y21 ?_;refine ak ?_ (bH (own:=true) (s:=1) rfl ?_ ck rfl rfl) rfl
 ·rw[Heap.aq (by show h.next<=h.next+1;omega)];exact hr.log
 ·exact YG
theorem Hz(F:xq T)(hg:T 181=some f225){h:Heap}(hr:Rdy h){s:List Nat}(hs:IsS s){x y z:Int}(hx:Sh7 x)(hy:Sh7 y)(hz:Sh7 z)(hall:∀c∈aW s 512,inG (shC x y z c)=true):Pu T 162 [sv s, .int .i64 x, .int .i64 y, .int .i64 z] h (.tuple #[sv (kT (shC x y z) s), .int .i64 0]):=by
 have hp:=F.cr.hr.p;refine .of hp F.f139 hr (DL _ 0) ?_;have k8:=aR hs.len;have k9:=bR hs.len;have x0:Ext h ((h.push (.cells (cellsOf (sv s)) true 1)).push (.cells (aL 8 (.int .u64 0)) true 1)):=((Ext.refl h).push _).push _;have g0:((h.push (.cells (cellsOf (sv s)) true 1)).push (.cells (aL 8 (.int .u64 0)) true 1)).get h.next=some (.cells (us s) true 1):=YG
 have g1:((h.push (.cells (cellsOf (sv s)) true 1)).push (.cells (aL 8 (.int .u64 0)) true 1)).get (h.next+1)=some (.cells (aL 8 (.int .u64 0)) true 1):=YG;have n0:((h.push (.cells (cellsOf (sv s)) true 1)).push (.cells (aL 8 (.int .u64 0)) true 1)).next=h.next+2:=rfl
 refine Y5 ?_;generalize((h.push (.cells (cellsOf (sv s)) true 1)).push (.cells (aL 8 (.int .u64 0)) true 1))=H at*;have W:=x0.wf hr.wf;have hL:=x0.log.trans hr.log;have C:=qo F.cr (h:={H with log:=[]}) (.of W) hs;have hin:∀c∈aW s 512,inG c=true:=λc hc=>jt hc;have hle:=gW s 512;unfold kT;generalize aW s 512=l at*;refine Y3 ?_;refine FW.al C (λv h' m q=>q.log m) ?_;rintro v H2 x2 q;clear C;have ey2':=x0.trans x2;have W2:=ey2'.wf hr.wf;have hL2:=x2.log.trans hL;have n2:=x2.next
 have gb2:=(x2.old _ (by omega)).trans g1;obtain⟨a,cc,rfl⟩:=(q.slice (by omega)).form;have C1:=vo hp F.f223 (h:={H2 with log:=[]}) (.of W2) hx;have C2:=vo hp F.f223 (h:={H2 with log:=[]}) (.of W2) hy;have C3:=vo hp F.f223 (h:={H2 with log:=[]}) (.of W2) hz;clear g0 g1;refine Y2 ?_;refine aX (E0:=[(1, .int .i64 x),(2, .int .i64 y),(3, .int .i64 z),(8, .pointer (some ⟨h.next+1,0,none⟩)),(10, .slice a l.length cc),(33, .bool false)]) (P:=λh'=>H2=h') ?_ ?_
 ·by_cases hl:l.length=0
  ·have m1:ah .gtr (.int .i64 (l.length:Nat)) (.int .i64 0)=some (.bool false):=jB (by omega);refine Y22 ?_;exact⟨rfl,rfl,rfl,rfl⟩
  ·have m1:ah .gtr (.int .i64 (l.length:Nat)) (.int .i64 0)=some (.bool true):=kP (by omega);refine Y9 ?_;refine FW.pu C1 ?_;refine Y8 ?_;refine FW.pu C2 ?_;refine Y10 ?_;refine FW.pu C3 ?_;refine Y8 ?_;exact⟨rfl,rfl,rfl,rfl⟩
 rintro _ rfl;clear C1 C2 C3;have x3:Ext H2 (H2.push (.cells (aL 8 (.int .u64 0)) true 1)):=(Ext.refl H2).push _;have q3:(H2.push (.cells (aL 8 (.int .u64 0)) true 1)).get H2.next=some (.cells (us s0) true 1):=z3 _ _
 have n3:(H2.push (.cells (aL 8 (.int .u64 0)) true 1)).next=H2.next+1:=rfl
 refine Y3 ?_;generalize(H2.push (.cells (aL 8 (.int .u64 0)) true 1))=H3 at*;refine Y5 ?_
 refine bW (λm e ds h'=>∃j:Nat,j<=l.length/\l.length-j=m/\e=[(1, .int .i64 x),(2, .int .i64 y),(3, .int .i64 z),(8, .pointer (some ⟨h.next+1,0,none⟩)),(10, .slice a l.length cc),(11, .pointer (some ⟨H2.next,0,none⟩)),(12, .int .i64 (j:Nat))]/\ds=[]/\Ext H2 h'∧H2.next<h'.next/\h'.get H2.next=some (.cells (us (jX (shC x y z) (l.take j))) true 1))
  ⟨0,Nat.zero_le _,rfl,rfl,rfl,x3,by omega,q3⟩ ?_
 rintro m e ds h' ⟨j,hj,rfl,rfl,rfl,xx,hn,gd⟩;have ey:=ey2'.trans xx;have Wh:=ey.wf hr.wf;have hLh:=ey.log.trans hr.log;have gc:=(xx.old _ (by omega)).trans gb2;clear q3 x3;by_cases hlt:j<l.length
 ·obtain⟨c,hc⟩:∃c,l[j]? =some c:=⟨l[j]'hlt,List.getElem?_eq_getElem _⟩;have hcm:=List.mem_of_getElem? hc;have hcl:=hin c hcm;have hcl2:=hall c hcm;obtain⟨b,o,c2,vs,own,tt,hv,gl,hbl,el,_,_,_⟩:=CeQ.elem ((q.slice (by omega)).ext xx) hc;cases hv;have hO:IsS (jX (shC x y z) (l.take j)):=oN λd hd=>hall d (List.mem_of_mem_take hd);have hs1:jX (shC x y z) (l.take (j+1))=kW (jX (shC x y z) (l.take j)) (shC x y z c):=by rw[sE hc,oO]
  generalize jX (shC x y z) (l.take j)=out at*;have C1:=HA hp F.f224 (h:={h' with log:=[]}) (.of Wh) (jK.1 hcl) hx hy hz;generalize shC x y z c=d at*;have k1:=bR hO.len;have k2:=aR hO.len;have k4:=hO.len;have mlt:ah .lss (.int .i64 (j:Nat)) (.int .i64 (l.length:Nat))=some (.bool true):=dG (by omega);refine Y12 ?_;refine aX (E0:=[(1, .int .i64 x),(2, .int .i64 y),(3, .int .i64 z),(8, .pointer (some ⟨h.next+1,0,none⟩)),(10, .slice (some ⟨b,o,none⟩) l.length cc),(11, .pointer (some ⟨H2.next,0,none⟩)),(12, .int .i64 (j:Nat)),(13, .pointer (some ⟨h'.next,0,none⟩))]) (P:=λh4=>Ext h' h4/\h4.next=h'.next+1/\h4.get h'.next=some (.cells (ceL d) true 1)) ?_ ?_
  ·refine Y4 ?_;refine aA (cQ (by exact rfl) (by assumption) (by assumption) (by exact rfl)) ?_;refine Y4 ?_;refine FW.pu C1 ?_;clear C1;refine Y2 ?_;refine aO ?_;refine y1 ?_;exact⟨rfl,rfl,rfl,dI (by omega) _ _,rfl,ef _ _⟩
  rintro H4 ⟨x4,n4,g4⟩;clear C1;have W4:=x4.wf Wh;have L4:=x4.log.trans hLh;have gd4:=(x4.old _ (by omega)).trans gd;have C2:=vZ hp hg (h:={H4 with log:=[]}) (.of W4) d;rw[hcl2]at C2;have C3:=DT hp F.f221 (h:={H4 with log:=[]}) (.of W4) hO hcl2;have hO2:=hO.kW hcl2;have k3:=aR hO2.len;have k5:=hO2.len;have ck:bB 3 (bA 0 (ceL d))=ceL d:=rfl;have ckl:Nat.beq (bK (ceL d)) 3=true:=rfl;clear gd gl;refine Y4 ?_;refine FW.pu C2 ?_;clear C2;refine Y9 ?_;refine FW.pu C3 ?_;clear C3;refine aA (bh (by exact rfl) (by exact rfl) (by assumption) (by(simp only[aI];assumption)) (by(simp only[aI];assumption)) (by exact cg _)) ?_;refine aO ?_;refine y1 ?_;refine Nz ?_;refine vE ?_;refine sH ?_;refine yM ?_;refine Y3 ?_;have xx4:=xx.trans x4;refine⟨l.length-(j+1),by omega,j+1,by omega,rfl,rfl,rfl,⟨xx4.next,(Heap.aq (by omega)).trans xx4.log,λb hb=>(z5 (by omega)).trans (xx4.old b hb),λw=>(xx4.wf w).as (AS.wr h.next _ _ _)⟩,by show H2.next<H4.next;omega,?_⟩;rw[hs1];(simp(disch:=first|omega|(simp only[z1,z2];omega))only[z3,z4,z5,z6,z7,z1,z2,gb2,gc,g4,gd4];done)
 ·obtain rfl:j=l.length:=by omega
  rw[List.take_length]at gd;have hO:IsS (jX (shC x y z) l):=oN λd hd=>hall d hd;generalize jX (shC x y z) l=out at*;have k1:=bR hO.len;have k2:=aR hO.len;have k3:=hO.len;have mlt:ah .lss (.int .i64 (l.length:Nat)) (.int .i64 (l.length:Nat))=some (.bool false):=dJ (by omega);refine Y7 ?_;refine yX ?_;refine zH ?_;refine Eg ?_;refine Eg ?_;refine Kz ?_;refine vE ?_;refine y4 ?_;refine yV ?_;refine aA (bh (by exact rfl) (by exact rfl) (by assumption) (by(simp only[aI];assumption)) (by exact rfl) (by exact cg _)) ?_;refine Y3 ?_;refine ak ?_ (bH (own:=true) (s:=1) rfl ?_ k1 k2 rfl) rfl
  ·rw[Heap.aq (by show h.next<=h.next+1;omega)];exact hLh
  ·exact YG
theorem vS{s:List Nat}(hs:IsS s)(h:aW s 512=[]):s=s0:=by
 refine xY hs om λz i hz hi=> ?_;rw[qY];cases hc:ff s (eC z i)with
 |false=>rfl
 |true=>
  have:eC z i∈aW s 512:=List.mem_filter.2 ⟨List.mem_map.2 ⟨z*64+i,List.mem_range.2 (by omega),xM hi⟩,hc⟩;rw[h]at this;cases this
theorem zX:aW s0 512=[]:=by
 rw[aW,List.filter_eq_nil_iff];intro c _;rw[qY];simp
theorem Gm{c:Ce}(hc:InB c):mY ⟨c,c⟩ c=mY bx0 c:=by
 obtain⟨cx,cy,cz⟩:=c;obtain⟨hx,hy,hz⟩:=hc;dsimp only at hx hy hz;unfold mY bx0 mi mx;dsimp only;congr 1<;>congr 1<;>(repeat' split)<;>omega
theorem D8{c:Ce}(hc:InB c)(l:List Ce):(c::l).foldl mY ⟨c,c⟩=bxS (c::l):=by
 unfold bxS;rw[List.foldl_cons,List.foldl_cons,Gm hc]
theorem D0(F:xq T)(hf:T 161=some f138){h:Heap}(hr:Rdy h){s:List Nat}(hs:IsS s):Pu T 161 [sv s] h (Gh (dB s)):=by
 have hp:=F.cr.hr.p;refine .of hp hf hr rfl ?_;have k8:=aR hs.len;have k9:=bR hs.len;have x0:Ext h ((h.push (.cells (cellsOf (sv s)) true 1)).push (.cells [I.O,I.O,I.O,I.O,I.O,I.O] true 1)):=((Ext.refl h).push _).push _;have g0:((h.push (.cells (cellsOf (sv s)) true 1)).push (.cells [I.O,I.O,I.O,I.O,I.O,I.O] true 1)).get h.next=some (.cells (us s) true 1):=(z4 (Nat.lt_succ_self _)).trans (z3 h _)
 have g1:((h.push (.cells (cellsOf (sv s)) true 1)).push (.cells [I.O,I.O,I.O,I.O,I.O,I.O] true 1)).get (h.next+1)=some (.cells [I.O,I.O,I.O,I.O,I.O,I.O] true 1):=z3 _ _;have n0:((h.push (.cells (cellsOf (sv s)) true 1)).push (.cells [I.O,I.O,I.O,I.O,I.O,I.O] true 1)).next=h.next+2:=rfl
 refine Y5 ?_;generalize((h.push (.cells (cellsOf (sv s)) true 1)).push (.cells [I.O,I.O,I.O,I.O,I.O,I.O] true 1))=H at*;have W:=x0.wf hr.wf;have hL:=x0.log.trans hr.log;have C:=qo F.cr (h:={H with log:=[]}) (.of W) hs;have hin:∀c∈aW s 512,inG c=true:=λc hc=>jt hc;have hle:=gW s 512;have hnil:aW s 512=[]↔s=s0:=⟨vS hs,λe=>by rw[e];exact zX⟩;have hbn:dB s=if aW s 512=[]then(⟨c0,c0⟩,false)else(bxS (aW s 512),true):=by
  unfold dB;by_cases e:s=s0
  ·rw[if_pos e,if_pos (hnil.2 e)]
  ·rw[if_neg e,if_neg (λq=>e (hnil.1 q))]
 rw[hbn];generalize aW s 512=l at*;refine Y3 ?_;refine FW.al C (λv h' m q=>q.log m) ?_;rintro v H2 x2 q;clear C;have ey2':=x0.trans x2;have W2:=ey2'.wf hr.wf;have hL2:=x2.log.trans hL;have n2:=x2.next
 have gb2:=(x2.old _ (by omega)).trans g1;clear g0 g1;cases l with
 |nil=>
  obtain rfl:v= .slice none 0 0:=by
   cases q with
   |nil=>rfl
   |full a b c d e=>exact absurd rfl e
  rw[if_pos rfl];have ck0:bB 6 (bA 0 (bxL ⟨c0,c0⟩))=bxL ⟨c0,c0⟩:=rfl;refine Y16 ?_;refine ak ?_ (bH (own:=true) (s:=1) (l:=bxL ⟨c0,c0⟩) rfl ?_ ck0 rfl rfl) rfl
  ·rw[Heap.aq (by show h.next<=h.next+1;omega)];exact hL2
  ·exact YG
 |cons d r=>
  rw[if_neg (by simp)];have hd:=jK.1 (hin d List.mem_cons_self);rw[←D8 hd r];have qs:=q.slice (by omega);obtain⟨b,o,cc,vs,own,tt,rfl,gl,hbl,el,_,_,_⟩:=CeQ.elem (i:=0) (x:=d) qs rfl;clear q;generalize hl:d::r=l at*;have hl0:0<l.length:=by rw[←hl];simp
  clear hl;have m0:ah .eql (.int .i64 (l.length:Nat)) (.int .i64 0)=some (.bool false):=pN (by omega);have x5:=dI (h:=H2) (base:=h.next) (by omega) (.cells [I.O,I.O,I.O,I.O,I.O,I.O] true 1) (.cells (bxL ⟨d,d⟩) true 1);have g5:=ef (h:=H2) (base:=h.next) [I.O,I.O,I.O,I.O,I.O,I.O] (bxL ⟨d,d⟩);have ckb:bB 6 (bA 0 (bxL ⟨d,d⟩))=bxL ⟨d,d⟩:=rfl;refine Y11 ?_;refine aX (E0:=[(2, .pointer (some ⟨h.next+1,0,none⟩)),(4, .slice (some ⟨b,o,none⟩) l.length cc),(5, .pointer (some ⟨H2.next,0,none⟩))]) (P:=λh'=>Ext H2 h'∧H2.next<h'.next/\h'.get H2.next=some (.cells (bxL ⟨d,d⟩) true 1)) ?_ ?_
  ·refine Y3 ?_;refine cD rfl rfl rfl (by exact rfl) (by exact rfl) (by exact rfl) (cQ (by exact rfl) (by assumption) (by assumption) (by exact rfl)) ?_;refine Y2 ?_;refine cD rfl rfl rfl (by exact rfl) (by exact rfl) (by exact rfl) (cQ (by exact rfl) (by assumption) (by assumption) (by exact rfl)) ?_;refine cD rfl rfl rfl (by exact rfl) (by exact rfl) (by exact rfl) (lE (by exact rfl)) ?_;refine zG rfl rfl rfl (by exact rfl) (by exact rfl) (by exact rfl) sO (by refine dR (aG rfl (lE (by exact rfl)) (by refine lB ?_;refine dg (ej _ _) ?_;refine dg (ej _ _) ?_;refine dg (ej _ _) ?_;refine dg (ej _ _) ?_;refine dg (ej _ _) ?_;refine dg (ej _ _) ?_;exact zq)) ?_;refine dR (aG rfl (cQ (by exact rfl) YG (by assumption) (by exact rfl)) (by refine lB ?_;refine dg (ej _ _) ?_;refine dg (ej _ _) ?_;refine dg (ej _ _) ?_;exact zq)) ?_;refine dR (aG rfl (qj (by exact rfl) (by exact rfl) (by omega)) (by exact dz _)) ?_;refine dR (aG rfl (gG (by exact rfl)) (by exact ru _ _ _)) ?_;refine dR (aG rfl (cQ (by exact rfl) YG (by assumption) (by exact rfl)) (by refine lB ?_;refine dg (ej _ _) ?_;refine dg (ej _ _) ?_;refine dg (ej _ _) ?_;exact zq)) ?_;refine dR (aG rfl (qj (by exact rfl) (by exact rfl) (by omega)) (by exact dz _)) ?_;refine dR (aG rfl (gG (by exact rfl)) (by exact ru _ _ _)) ?_;exact zj) ?_;refine gI rfl rfl rfl (by exact rfl) (by exact rfl) (by exact rfl) YG (by exact rfl) (by exact rfl) (by(simp only[z1,z2];omega)) (by omega) (by(repeat apply aK rfl);exact bV) ?_;refine Y2 ?_;exact⟨rfl,rfl,rfl,x5,Nat.lt_succ_self _,g5⟩
  clear x5 g5;rintro H5 ⟨x5,n5,g5⟩;clear gl el;refine Y5 ?_
  refine bW (λm e ds h'=>∃j:Nat,j<=l.length/\l.length-j=m/\e=[(2, .pointer (some ⟨h.next+1,0,none⟩)),(4, .slice (some ⟨b,o,none⟩) l.length cc),(5, .pointer (some ⟨H2.next,0,none⟩)),(6, .int .i64 (j:Nat))]/\ds=[]/\Ext H2 h'∧H2.next<h'.next/\h'.get H2.next=some (.cells (bxL ((l.take j).foldl mY ⟨d,d⟩)) true 1))
   ⟨0,Nat.zero_le _,rfl,rfl,rfl,x5,n5,g5⟩ ?_
  rintro m e ds h' ⟨j,hj,rfl,rfl,rfl,xx,hn,gd⟩;have ey:=ey2'.trans xx;have Wh:=ey.wf hr.wf;have hLh:=ey.log.trans hr.log;have gc:=(xx.old _ (by omega)).trans gb2;clear g5 x5 n5;by_cases hlt:j<l.length
  ·obtain⟨c,hc⟩:∃c,l[j]? =some c:=⟨l[j]'hlt,List.getElem?_eq_getElem _⟩;obtain⟨b',o',c2,vs',own',tt',hv,gl,_,el,e1,e2,e3⟩:=CeQ.elem (qs.ext xx) hc;cases hv;have hs1:(l.take (j+1)).foldl mY ⟨d,d⟩=mY ((l.take j).foldl mY ⟨d,d⟩) c:=by rw[sE hc,List.foldl_append];rfl
   generalize(l.take j).foldl mY ⟨d,d⟩=bb at*;have mlt:ah .lss (.int .i64 (j:Nat)) (.int .i64 (l.length:Nat))=some (.bool true):=dG (by omega);have hbq:b<H2.next:=hbl
   obtain⟨⟨x1,ey1,z1q⟩,⟨x2q,eyy2,z2q⟩⟩:=bb;obtain⟨cx,cy,cz⟩:=c;dsimp only at e1 e2 e3;unfold bxL ceL at gd;dsimp only[List.cons_append,List.nil_append]at gd;clear gc;refine Y25 ?_;refine gI rfl rfl rfl (by exact rfl) (by exact rfl) (by exact rfl) (by assumption) (by exact rfl) (by exact rfl) (by omega) (by omega) (by(repeat apply aK rfl);exact bV) ?_;refine vt ?_;refine Y11 ?_;refine cD rfl rfl rfl (by exact rfl) (by exact rfl) (by exact rfl) (fq (by exact rfl) YG (by assumption)) ?_;refine Y3 ?_;refine gI rfl rfl rfl (by exact rfl) (by exact rfl) (by exact rfl) YG (by exact rfl) (by exact rfl) (by(simp only[z1,z2];omega)) (by omega) (by(repeat apply aK rfl);exact bV) ?_;refine Y12 ?_;refine cD rfl rfl rfl (by exact rfl) (by exact rfl) (by exact rfl) (fq (by exact rfl) YG (by assumption)) ?_;refine Y3 ?_;refine gI rfl rfl rfl (by exact rfl) (by exact rfl) (by exact rfl) YG (by exact rfl) (by exact rfl) (by(simp only[z1,z2];omega)) (by omega) (by(repeat apply aK rfl);exact bV) ?_;refine Y12 ?_;refine cD rfl rfl rfl (by exact rfl) (by exact rfl) (by exact rfl) (fq (by exact rfl) YG (by assumption)) ?_;refine Y3 ?_;refine gI rfl rfl rfl (by exact rfl) (by exact rfl) (by exact rfl) YG (by exact rfl) (by exact rfl) (by(simp only[z1,z2];omega)) (by omega) (by(repeat apply aK rfl);exact bV) ?_;refine Y12 ?_;refine cD rfl rfl rfl (by exact rfl) (by exact rfl) (by exact rfl) (fq (by exact rfl) YG (by assumption)) ?_;refine Y3 ?_;refine gI rfl rfl rfl (by exact rfl) (by exact rfl) (by exact rfl) YG (by exact rfl) (by exact rfl) (by(simp only[z1,z2];omega)) (by omega) (by(repeat apply aK rfl);exact bV) ?_;refine Y11 ?_;refine cD rfl rfl rfl (by exact rfl) (by exact rfl) (by exact rfl) (fq (by exact rfl) YG (by assumption)) ?_;refine Y3 ?_;refine gI rfl rfl rfl (by exact rfl) (by exact rfl) (by exact rfl) YG (by exact rfl) (by exact rfl) (by(simp only[z1,z2];omega)) (by omega) (by(repeat apply aK rfl);exact bV) ?_;refine Y9 ?_;refine⟨l.length-(j+1),by omega,j+1,by omega,rfl,rfl,rfl,⟨xx.next,?_,λz hz=> ?_,λw=> ?_⟩,hn,?_⟩
   ·rw[Heap.aq (by omega),Heap.aq (by omega),Heap.aq (by omega),Heap.aq (by omega),Heap.aq (by omega),Heap.aq (by omega)];exact xx.log
   ·simp only[z5 (show z≠H2.next by omega)];exact xx.old z hz
   ·exact((((((xx.wf w).as (AS.wr h.next _ _ _)).as (AS.wr h.next _ _ _)).as (AS.wr h.next _ _ _)).as (AS.wr h.next _ _ _)).as (AS.wr h.next _ _ _)).as (AS.wr h.next _ _ _)
   ·rw[hs1];exact(Heap.aB (Heap.aB (Heap.aB (Heap.aB (Heap.aB (Heap.aB (gd))))))).trans rfl
  ·obtain rfl:j=l.length:=by omega
   rw[List.take_length]at gd;generalize l.foldl mY ⟨d,d⟩=bb at*;have ck:bB 6 (bA 0 (bxL bb))=bxL bb:=rfl;have ckl:Nat.beq (bK (bxL bb)) 6=true:=rfl;have mlt:ah .lss (.int .i64 (l.length:Nat)) (.int .i64 (l.length:Nat))=some (.bool false):=dJ (by omega);refine Y19 ?_;refine ak ?_ (bH (own:=true) (s:=1) (l:=bxL bb) rfl ?_ ck ckl rfl) rfl
   ·rw[Heap.aq (by show h.next<=h.next+1;omega)];exact hLh
   ·exact YG
end Go.A.Pk
end
section
namespace Go.A.Pk
theorem zT{z i z' i':Nat}(h:eC z i=eC z' i'):z=z'∧i=i':=by
 unfold eC at h;injection h with h1 h2 h3
 omega
theorem Lf{o:List Nat}(ho:IsS o){d:Ce}(hd:inG d=true)(c:Ce):ff (kW o d) c=(ff o c||decide (c=d)):=by
 by_cases hc:inG c=true
 ·obtain⟨z,i,hz,hi,rfl⟩:=iB hc;obtain⟨m,j,hm,hj,rfl⟩:=iB hd;rw[ij hz hi,ij hz hi,tM o hj];by_cases e:m=z
  ·subst e;have e1:(o.set m (Nat.lor (o.getD m 0) (2 ^ j))).getD m 0=Nat.lor (o.getD m 0) (2 ^ j):=by
    rw[List.getD_eq_getElem?_getD,List.getElem?_set_self (by rw[ho.len];exact hm)];rfl
   rw[e1];show Nat.testBit (o.getD m 0|||2 ^ j) i=_;rw[Nat.testBit_or,Nat.testBit_two_pow];congr 1;by_cases e2:j=i
   ·subst e2;simp
   ·rw[decide_eq_false e2,decide_eq_false (λq=>e2 (zT q).2.symm)]
  ·have e1:(o.set m (Nat.lor (o.getD m 0) (2 ^ j))).getD z 0=o.getD z 0:=by
    rw[List.getD_eq_getElem?_getD,List.getElem?_set_ne e,←List.getD_eq_getElem?_getD]
   rw[e1,decide_eq_false (λq=>e (zT q).1.symm),Bool.or_false]
 ·rw[jg hc,jg hc,decide_eq_false (λ(q:c=d)=>hc (by rw[q];exact hd))];rfl
theorem Hw{f:Ce->Ce}(c:Ce):∀{l:List Ce},(∀x∈l,inG (f x)=true)->(ff (jX f l) c=true↔ ∃x∈l,f x=c):=by
 intro l;have:∀(l:List Ce) (o:List Nat),IsS o->(∀x∈l,inG (f x)=true)->(ff (l.foldl (λo c=>kW o (f c)) o) c=true↔ff o c=true∨∃x∈l,f x=c):=by
  intro l;induction l with
  |nil=>intro o _ _;simp
  |cons d l ih=>
   intro o ho hl;rw[List.foldl_cons,ih _ (ho.kW (hl d List.mem_cons_self)) λx hx=>hl x (List.mem_cons_of_mem _ hx),Lf ho (hl d List.mem_cons_self),Bool.or_eq_true,decide_eq_true_eq];constructor
   ·rintro((h|h)|⟨x,hx,h⟩)
    ·exact .inl h
    ·exact .inr ⟨d,List.mem_cons_self,h.symm⟩
    ·exact .inr ⟨x,List.mem_cons_of_mem _ hx,h⟩
   ·rintro(h|⟨x,hx,h⟩)
    ·exact .inl (.inl h)
    ·rcases List.mem_cons.1 hx with rfl|hx
     ·exact .inl (.inr h.symm)
     ·exact .inr ⟨x,hx,h⟩
 intro hl;have e:=this l s0 om hl;rw[qY]at e;simpa[jX]using e
theorem eE{s:List Nat}{c:Ce}:c∈aW s 512↔ff s c=true:=by
 constructor
 ·intro h;exact(List.mem_filter.1 h).2
 ·intro h;have hc:inG c=true:=by
   cases hq:inG c with
   |true=>rfl
   |false=>rw[jg (by rw[hq];simp)]at h;cases h
  obtain⟨z,i,hz,hi,rfl⟩:=iB hc;exact List.mem_filter.2 ⟨Gq hz hi,h⟩
theorem uE{f:Ce->Ce}{s:List Nat}(h:∀x∈aW s 512,inG (f x)=true)(c:Ce):ff (kT f s) c=true↔ ∃x,ff s x=true/\f x=c:=by
 unfold kT;rw[Hw c h];constructor
 ·rintro⟨x,hx,e⟩;exact⟨x,eE.1 hx,e⟩
 ·rintro⟨x,hx,e⟩;exact⟨x,eE.2 hx,e⟩
theorem LF{p:Nat}{k:Int}{i:Nat}(hi:i<64):Nat.testBit (shP p k) i=(decide (0<=(i:Int)-k)&&Nat.testBit p ((i:Int)-k).toNat):=by
 unfold shP;split
 ·rename_i h;show Nat.testBit ((p<<<k.toNat) % 2 ^ 64) i=_;rw[Nat.testBit_mod_two_pow,decide_eq_true hi,Bool.true_and,Nat.testBit_shiftLeft];by_cases hk:k.toNat<=i
  ·rw[decide_eq_true (show i≥k.toNat from hk),decide_eq_true (show 0<=(i:Int)-k by omega),show((i:Int)-k).toNat=i-k.toNat by omega]
  ·rw[decide_eq_false (show¬i≥k.toNat from hk),decide_eq_false (show¬0<=(i:Int)-k by omega)];rfl
 ·rename_i h;show Nat.testBit (p>>>(-k).toNat) i=_;rw[Nat.testBit_shiftRight,decide_eq_true (show 0<=(i:Int)-k by omega),show((i:Int)-k).toNat=(-k).toNat+i by omega];rfl
theorem uA{s:List Nat}(hs:IsS s){a:Nat}{z k:Int}:∀{n:Nat},0<=(a:Int)+z->(a:Int)+z+(n:Nat)<=8->∀m:Nat,m<8→
 (jS s a z k n).getD m 0=if(a:Int)+z<=(m:Int)/\(m:Int)<(a:Int)+z+(n:Nat)then shP (s.getD ((m:Int)-z).toNat 0) k else 0
 |0,_,_,m,hm=>by
  rw[if_neg (by omega)];have:∀z:Fin 8,s0.getD z.val 0=0:=by decide
  exact this ⟨m,hm⟩
 |n+1,h1,h2,m,hm=>by
  have ih:=uA (k:=k) hs (n:=n) h1 (by omega) m hm;unfold jS;by_cases e:(((a+n:Nat):Int)+z).toNat=m
  ·rw[List.getD_eq_getElem?_getD,e,List.getElem?_set_self (by rw[(nS hs a z k n).len];exact hm),if_pos (by omega)];show shP (s.getD (a+n) 0) k=_;rw[show((m:Int)-z).toNat=a+n by omega]
  ·rw[List.getD_eq_getElem?_getD,List.getElem?_set_ne e,←List.getD_eq_getElem?_getD,ih];by_cases q:(a:Int)+z<=(m:Int)/\(m:Int)<(a:Int)+z+(n:Nat)
   ·rw[if_pos q,if_pos (by omega)]
   ·rw[if_neg q,if_neg (by omega)]
theorem Kb{x i:Nat}(hx:x<U64)(h:x.testBit i=true):i<64:=by
 rcases Nat.lt_or_ge i 64 with hi|hi
 ·exact hi
 ·rw[Nat.testBit_lt_two_pow (Nat.lt_of_lt_of_le hx (show 2 ^ 64<=2 ^ i from Nat.pow_le_pow_right (by omega) hi))]at h;cases h
theorem qn{s:List Nat}{c:Ce}(h:ff s c=true):((dB s).1.lo.x<=c.x/\c.x<=(dB s).1.hi.x)/\((dB s).1.lo.y<=c.y/\c.y<=(dB s).1.hi.y)/\((dB s).1.lo.z<=c.z/\c.z<=(dB s).1.hi.z):=by
 have hc:=eE.2 h;have h0:¬s=s0:=λq=>by rw[q,qY]at h;cases h
 have e:(dB s).1=bxS (aW s 512):=by unfold dB;rw[if_neg h0]
 rw[e,BA];exact⟨⟨(yq (·.x) _ 7).2 c hc,(yh (·.x) _ 0).2 c hc⟩,⟨(yq (·.y) _ 7).2 c hc,(yh (·.y) _ 0).2 c hc⟩,⟨(yq (·.z) _ 7).2 c hc,(yh (·.z) _ 0).2 c hc⟩⟩
theorem Nf{s:List Nat}(h0:¬s=s0){x y z:Int}(hx:x<=7)(hy:y<=7)(hz:z<=7)(h:∀c,ff s c=true->x<=c.x/\y<=c.y/\z<=c.z):x<=(dB s).1.lo.x/\y<=(dB s).1.lo.y/\z<=(dB s).1.lo.z:=by
 have e:(dB s).1=bxS (aW s 512):=by unfold dB;rw[if_neg h0]
 rw[e,BA];exact⟨yp (·.x) _ 7 hx λc hc=>(h c (eE.1 hc)).1,yp (·.y) _ 7 hy λc hc=>(h c (eE.1 hc)).2.1,yp (·.z) _ 7 hz λc hc=>(h c (eE.1 hc)).2.2⟩
theorem Ng{s:List Nat}(h0:¬s=s0){x y z:Int}(hx:0<=x)(hy:0<=y)(hz:0<=z)(h:∀c,ff s c=true->c.x<=x/\c.y<=y/\c.z<=z):(dB s).1.hi.x<=x/\(dB s).1.hi.y<=y/\(dB s).1.hi.z<=z:=by
 have e:(dB s).1=bxS (aW s 512):=by unfold dB;rw[if_neg h0]
 rw[e,BA];exact⟨yj (·.x) _ 0 hx λc hc=>(h c (eE.1 hc)).1,yj (·.y) _ 0 hy λc hc=>(h c (eE.1 hc)).2.1,yj (·.z) _ 0 hz λc hc=>(h c (eE.1 hc)).2.2⟩
theorem GN{s:List Nat}{c:Ce}(h:ff s c=true):inG c=true:=by
 cases hq:inG c with
 |true=>rfl
 |false=>rw[jg (by rw[hq];simp)]at h;cases h
theorem sC{s:List Nat}(hs:IsS s)(h0:¬s=s0):∃c,ff s c=true:=by
 cases hl:aW s 512 with
 |nil=>exact absurd (vS hs hl) h0
 |cons c l=>exact⟨c,eE.1 (by rw[hl];exact List.mem_cons_self)⟩
structure Rng (b:Bx) (x y z:Int):Prop where
 x:0<=b.lo.x+x/\b.hi.x+x<=7
 y:0<=b.lo.y+y/\b.hi.y+y<=7
 z:0<=b.lo.z+z/\b.hi.z+z<=7
theorem Rng.all{s:List Nat}{x y z:Int}(r:Rng (dB s).1 x y z){c:Ce}(h:ff s c=true):inG (shC x y z c)=true:=by
 obtain⟨h1,h2,h3⟩:=qn h;obtain⟨r1,r2,r3⟩:=r;refine jK.2 ⟨?_,?_,?_⟩<;>(unfold shC;dsimp only;omega)
theorem Hi{s:List Nat}(hs:IsS s){x y z:Int}(r:Rng (dB s).1 x y z){m i:Nat}(hm:m<8)(hi:i<64):
 ff (j6 s (dB s).1 x y z) (eC m i)=true↔ ∃c,ff s c=true/\shC x y z c=eC m i:=by
 have hall:∀c,ff s c=true->inG (shC x y z c)=true:=λc hc=>r.all hc;have hbx:=λc hc=> @qn s c hc;obtain⟨⟨bl1,bl2,bl3⟩,⟨bh1,bh2,bh3⟩⟩:=oM s;obtain⟨_,_,r3⟩:=r;unfold j6;generalize(dB s).1=b at*;rw[ij hm hi];by_cases hlh:b.lo.z<=b.hi.z
 ·rw[uA hs (by omega) (by omega) m hm];have hcond:((b.lo.z.toNat:Int)+z<=(m:Int)/\(m:Int)<(b.lo.z.toNat:Int)+z+((b.hi.z-b.lo.z+1).toNat:Nat))↔(b.lo.z+z<=m/\(m:Int)<=b.hi.z+z):=by omega
  by_cases hq:b.lo.z+z<=m/\(m:Int)<=b.hi.z+z
  ·rw[if_pos (hcond.2 hq),LF hi,Bool.and_eq_true,decide_eq_true_eq];constructor
   ·rintro⟨h1,h2⟩;have hi':=Kb (hs.jJ _) h2;have hm':((m:Int)-z).toNat<8:=by omega
    have hc:ff s (eC ((m:Int)-z).toNat ((i:Int)-(8*y+x)).toNat)=true:=by rw[ij hm' hi'];exact h2
    refine⟨_,hc,?_⟩;obtain⟨q1,q2,q3⟩:=jK.1 (hall _ hc);unfold shC eC at q1 q2 q3⊢;dsimp only at q1 q2 q3⊢;congr 1<;>omega
   ·rintro⟨c,hc,e⟩;obtain⟨m',i',hm',hi',rfl⟩:=iB (GN hc);rw[ij hm' hi']at hc;unfold shC eC at e;injection e with e1 e2 e3
    dsimp only at e1 e2 e3;have e4:((m:Int)-z).toNat=m':=by omega
    have e5:((i:Int)-(8*y+x)).toNat=i':=by omega
    rw[e4,e5];exact⟨by omega,hc⟩
  ·rw[if_neg (λq=>hq (hcond.1 q)),Nat.zero_testBit];constructor
   ·intro h;cases h
   ·rintro⟨c,hc,e⟩;obtain⟨_,_,h3⟩:=hbx c hc;unfold shC eC at e;injection e with e1 e2 e3
    exact absurd ⟨by omega,by omega⟩ hq
 ·have hno:∀c,¬ff s c=true:=λc hc=>by have:=(hbx c hc).2.2;omega
  rw[show(b.hi.z-b.lo.z+1).toNat=0 by omega];constructor
  ·intro h;unfold jS at h;have:∀z:Fin 8,s0.getD z.val 0=0:=by decide
   rw[this ⟨m,hm⟩,Nat.zero_testBit]at h;cases h
  ·rintro⟨c,hc,_⟩;exact absurd hc (hno c)
theorem uF{s:List Nat}{x y z:Int}(r:Rng (dB s).1 x y z):IsS (kT (shC x y z) s):=oN λc hc=>r.all (eE.1 hc)
theorem Dk{s:List Nat}(hs:IsS s){x y z:Int}(r:Rng (dB s).1 x y z):j6 s (dB s).1 x y z=kT (shC x y z) s:=by
 refine xY (nS hs _ _ _ _) (uF r) λm i hm hi=> ?_;have e1:=Hi hs r hm hi;have e2:=uE (f:=shC x y z) (s:=s) (λc hc=>r.all (eE.1 hc)) (eC m i);cases h1:ff (j6 s (dB s).1 x y z) (eC m i)with
 |true=>rw[e2.2 (e1.1 h1)]
 |false=>
  cases h2:ff (kT (shC x y z) s) (eC m i)with
  |false=>rfl
  |true=>rw[e1.2 (e2.1 h2)]at h1;cases h1
def BD(a s:List Nat)(z y x:Int):Bool:=sIn (kT (shC x y z) s) a
def EU(a s:List Nat)(b:Bx)(z y:Int):Bool:=(zr (-b.lo.x) (7-b.hi.x)).any (BD a s z y)
def EV(a s:List Nat)(b:Bx)(z:Int):Bool:=(zr (-b.lo.y) (7-b.hi.y)).any (EU a s b z)
def Lv(a s:List Nat)(b:Bx):Bool:=(zr (-b.lo.z) (7-b.hi.z)).any (EV a s b)
def vf(a b:List Nat)(t:Nat):Bool:=Lv a (ek b t) (dB (ek b t)).1
def A0(a b:List Nat):Bool:=decide (b=s0)||(!decide (dW a<dW b)&&(List.range 24).any (vf a b))
theorem p8{lo hi z:Int}:z∈zr lo hi↔lo<=z/\z<=hi:=by
 constructor
 ·intro h;obtain⟨n,hn,rfl⟩:=List.mem_map.1 h;have:=List.mem_range.1 hn;omega
 ·rintro⟨h1,h2⟩;exact qc (n:=(z-lo).toNat) (by omega) h2
theorem I5{a b:List Nat}{t:Nat}:vf a b t=true↔ ∃x y z,Rng (dB (ek b t)).1 x y z/\sIn (kT (shC x y z) (ek b t)) a=true:=by
 unfold vf Lv EV EU BD;simp only[List.any_eq_true,p8];constructor
 ·rintro⟨z,hz,y,hy,x,hx,h⟩;exact⟨x,y,z,⟨by omega,by omega,by omega⟩,h⟩
 ·rintro⟨x,y,z,⟨r1,r2,r3⟩,h⟩;exact⟨z,by omega,y,by omega,x,by omega,h⟩
theorem GF{a b:List Nat}{t:Nat}:(∃f,f∈oV a b t)↔ ∃x y z,((dB a).1.lo.x-(dB (ek b t)).1.lo.x<=x/\x<=(dB a).1.hi.x-(dB (ek b t)).1.hi.x)/\((dB a).1.lo.y-(dB (ek b t)).1.lo.y<=y/\y<=(dB a).1.hi.y-(dB (ek b t)).1.hi.y)/\((dB a).1.lo.z-(dB (ek b t)).1.lo.z<=z/\z<=(dB a).1.hi.z-(dB (ek b t)).1.hi.z)/\sIn (j6 (ek b t) (dB (ek b t)).1 x y z) a=true:=by
 unfold oV Nr BC xS Bf;constructor
 ·rintro⟨f,hf⟩;obtain⟨z,hz,hf⟩:=List.mem_flatMap.1 hf;obtain⟨y,hy,hf⟩:=List.mem_flatMap.1 hf;obtain⟨x,hx,hf⟩:=List.mem_flatMap.1 hf;split at hf
  ·rename_i h;exact⟨x,y,z,p8.1 hx,p8.1 hy,p8.1 hz,h⟩
  ·cases hf
 ·rintro⟨x,y,z,hx,hy,hz,h⟩;refine⟨⟨t,x,y,z,j6 (ek b t) (dB (ek b t)).1 x y z⟩,List.mem_flatMap.2 ⟨z,p8.2 hz,List.mem_flatMap.2 ⟨y,p8.2 hy,List.mem_flatMap.2 ⟨x,p8.2 hx,?_⟩⟩⟩⟩;rw[if_pos h];exact List.mem_singleton.2 rfl
theorem DD{a b:List Nat}(ha:IsS a)(hb:IsS b)(h0:¬b=s0)(h0a:¬a=s0){t:Nat}:vf a b t=true↔ ∃f,f∈oV a b t:=by
 rw[I5,GF];have hsp:=rq b t;have hall:∀x∈aW b 512,inG (gH t x)=true:=λc hc=>oT c (jt hc);have hs0:¬ek b t=s0:=by
  intro q;obtain⟨c,hc⟩:=sC hb h0;have:=(uE hall (gH t c)).2 ⟨c,hc,rfl⟩;rw[show kT (gH t) b=s0 from q,qY]at this;cases this
 have bi:=oM (ek b t);have bia:=oM a;constructor
 ·rintro⟨x,y,z,r,h⟩;have hsub:=(LD (uF r) ha).1 h;have hcell:∀c,ff (ek b t) c=true->ff a (shC x y z c)=true:=λc hc=>hsub _ ((uE (λd hd=>r.all (eE.1 hd)) _).2 ⟨c,hc,rfl⟩);obtain⟨c1,hc1⟩:=sC hsp hs0;have k1:=qn (hcell c1 hc1);have k2:=jK.1 (GN hc1);obtain⟨k2x,k2y,k2z⟩:=k2;unfold shC at k1;dsimp only at k1;have lo:=Nf hs0 (x:=(dB a).1.lo.x-x) (y:=(dB a).1.lo.y-y) (z:=(dB a).1.lo.z-z) (by omega) (by omega) (by omega) λc hc=>by
   have:=qn (hcell c hc);unfold shC at this;dsimp only at this;omega
  have hi:=Ng hs0 (x:=(dB a).1.hi.x-x) (y:=(dB a).1.hi.y-y) (z:=(dB a).1.hi.z-z) (by omega) (by omega) (by omega) λc hc=>by
   have:=qn (hcell c hc);unfold shC at this;dsimp only at this;omega
  refine⟨x,y,z,by omega,by omega,by omega,?_⟩;rw[Dk hsp r];exact h
 ·rintro⟨x,y,z,hx,hy,hz,h⟩;obtain⟨⟨bl1,bl2,bl3⟩,⟨bh1,bh2,bh3⟩⟩:=bia;have r:Rng (dB (ek b t)).1 x y z:=⟨by omega,by omega,by omega⟩;refine⟨x,y,z,r,?_⟩;rw[←Dk hsp r];exact h
theorem Lu{a b:List Nat}(ha:IsS a)(hb:IsS b):A0 a b=iU a b:=by
 unfold A0 iU;by_cases h0:b=s0
 ·rw[decide_eq_true h0];rfl
 rw[decide_eq_false h0,Bool.false_or,Bool.false_or];by_cases hc:dW a<dW b
 ·have e:jQ a b=[]:=if_pos (.inr hc);rw[e,decide_eq_true hc];rfl
 rw[decide_eq_false hc,Bool.not_false,Bool.true_and];have h0a:¬a=s0:=by
  intro q;apply hc;obtain⟨c,hcc⟩:=sC hb h0;have e:dW a=0:=by unfold dW;rw[q,zX];rfl
  rw[e];unfold dW;exact List.length_pos_of_mem (eE.2 hcc)
 have e:jQ a b=(List.range 24).flatMap (oV a b):=if_neg (λq=>q.elim h0a hc);rw[e];cases hq:(List.range 24).any (vf a b)with
 |true=>
  obtain⟨t,ht,h⟩:=List.any_eq_true.1 hq;obtain⟨f,hf⟩:=(DD ha hb h0 h0a).1 h;cases hl:(List.range 24).flatMap (oV a b)with
  |nil=>have:=List.mem_flatMap.2 ⟨t,ht,hf⟩;rw[hl]at this;cases this
  |cons _ _=>rfl
 |false=>
  cases hl:(List.range 24).flatMap (oV a b)with
  |nil=>rfl
  |cons f r=>
   exfalso;have hf:f∈(List.range 24).flatMap (oV a b):=by rw[hl];exact List.mem_cons_self
   obtain⟨t,ht,hf⟩:=List.mem_flatMap.1 hf;have:=List.any_eq_false.1 hq t ht;exact this ((DD ha hb h0 h0a).2 ⟨f,hf⟩)
end Go.A.Pk
end
section
namespace Go.A.Pk
variable {T:Nat->Option af}
structure FI (T:Nat->Option af):Prop where
 tr:xq T
 f51:T 138=some f51
 f52:T 59=some f52
 f84:T 159=some f84
 f138:T 161=some f138
 f140:T 101=some f140
 f225:T 181=some f225
theorem BN{a:Int}(h:0<=a/\a<=7):ry .neg (.int .i64 a)=some (.int .i64 (-a)):=by
 simp only[ry,Int.zero_sub];rw[bJ (by omega) (by omega)]
theorem ql{α:Type}{l:List α}{x:α}{p:α->Bool}(h:l.any p=false)(hx:p x=false):(l++[x]).any p=false:=by
 rw[List.any_append,h];simp[hx]
theorem Lz(F:FI T){h:Heap}(hr:Rdy h){a b:List Nat}(ha:IsS a)(hb:IsS b):
 Al T 138 [sv a,sv b] h λv _=>∃t x y z,v= .tuple #[moV t x y z, .bool (iU a b)]:=by
 have hp:=F.tr.cr.hr.p;rw[←Lu ha hb];refine .of hp F.f51 hr (λv h1 hv q=>q) ?_;have ka8:=aR ha.len;have ka9:=bR ha.len;have kb8:=aR hb.len;have kb9:=bR hb.len;have x0:Ext h (((h.push (.cells (cellsOf (sv a)) true 1)).push (.cells (cellsOf (sv b)) true 1)).push (.cells [I.O,I.O,I.O,I.O] true 1)):=(((Ext.refl h).push _).push _).push _;have gA:(((h.push (.cells (cellsOf (sv a)) true 1)).push (.cells (cellsOf (sv b)) true 1)).push (.cells [I.O,I.O,I.O,I.O] true 1)).get h.next=some (.cells (us a) true 1):=YG
 have gB:(((h.push (.cells (cellsOf (sv a)) true 1)).push (.cells (cellsOf (sv b)) true 1)).push (.cells [I.O,I.O,I.O,I.O] true 1)).get (h.next+1)=some (.cells (us b) true 1):=YG;have gC:(((h.push (.cells (cellsOf (sv a)) true 1)).push (.cells (cellsOf (sv b)) true 1)).push (.cells [I.O,I.O,I.O,I.O] true 1)).get (h.next+2)=some (.cells [I.O,I.O,I.O,I.O] true 1):=YG;have n0:(((h.push (.cells (cellsOf (sv a)) true 1)).push (.cells (cellsOf (sv b)) true 1)).push (.cells [I.O,I.O,I.O,I.O] true 1)).next=h.next+3:=rfl
 refine Y6 ?_;generalize(((h.push (.cells (cellsOf (sv a)) true 1)).push (.cells (cellsOf (sv b)) true 1)).push (.cells [I.O,I.O,I.O,I.O] true 1))=H at*;have W:=x0.wf hr.wf;have hL:=x0.log.trans hr.log;by_cases he:b=s0
 ·have hf:A0 a b=true:=by unfold A0;rw[decide_eq_true he];rfl
  rw[hf];have ck:bB 4 (bA 0 (moL 0 (-7) (-7) (-7)))=moL 0 (-7) (-7) (-7):=rfl;refine Y4 ?_;refine aA (j0 (b:=s0) (by exact rfl) (by exact rfl) hb.len rfl) ?_;rw[decide_eq_true he];refine Y9 ?_;refine fA ?_ (bH (own:=true) (s:=1) rfl ?_ ck rfl rfl) ⟨0, -7, -7, -7,rfl⟩
  ·rw[Heap.aq (by show h.next<=h.next+2;omega)];exact hL
  ·exact YG
 refine Y4 ?_;refine aA (j0 (b:=s0) (by exact rfl) (by exact rfl) hb.len rfl) ?_;rw[decide_eq_false he];have hrb:A0 a b=(!decide (dW a<dW b)&&(List.range 24).any (vf a b)):=by unfold A0;rw[decide_eq_false he,Bool.false_or]
 have C1:=C7 F.tr.cr F.f84 (h:={H with log:=[]}) (.of W) hb;have C2:=C7 F.tr.cr F.f84 (h:={H with log:=[]}) (.of W) ha;by_cases hcn:dW a<dW b
 ·rw[hrb,decide_eq_true hcn];have m1:ah .gtr (.int .i64 ((dW b:Nat):Int)) (.int .i64 ((dW a:Nat):Int))=some (.bool true):=kP (by omega);have ck:bB 4 (bA 0 (moL 0 0 0 0))=moL 0 0 0 0:=rfl;refine Y10 ?_;refine FW.puD C1 (by apply aM rfl (aG rfl (cQ (by exact rfl) (by assumption) (by assumption) (by assumption)) (by exact wS _)) rfl;apply aK rfl;exact bV) ?_;skip;refine qC ?_;refine FW.puD C2 (by apply aK rfl;exact bV) ?_;refine Y12 ?_;refine fA ?_ (bH (own:=true) (s:=1) rfl ?_ ck rfl rfl) ⟨0,0,0,0,rfl⟩
  ·rw[Heap.aq (by show h.next<=h.next+2;omega)];exact hL
  ·exact YG
 have m1:ah .gtr (.int .i64 ((dW b:Nat):Int)) (.int .i64 ((dW a:Nat):Int))=some (.bool false):=jB (by omega);rw[decide_eq_false hcn,Bool.not_false,Bool.true_and]at hrb;refine Y10 ?_;refine FW.puD C1 (by apply aM rfl (aG rfl (cQ (by exact rfl) (by assumption) (by assumption) (by assumption)) (by exact wS _)) rfl;apply aK rfl;exact bV) ?_;skip;refine qC ?_;refine FW.puD C2 (by apply aK rfl;exact bV) ?_;clear C1 C2 m1;refine cD rfl rfl rfl (by exact rfl) (by exact rfl) (by exact rfl) (tV (by exact rfl) (by exact rfl) (by exact jB (by omega))) ?_;refine Y11 ?_
 refine bW (λk e ds h'=>∃t:Nat,t<=24/\24-t=k/\e=[(2, .pointer (some ⟨h.next,0,none⟩)),(3, .pointer (some ⟨h.next+1,0,none⟩)),(4, .pointer (some ⟨h.next+2,0,none⟩)),(6, .int .i64 (t:Nat))]/\ds=[]/\Ext H h'∧(List.range t).any (vf a b)=false)
  ⟨0,Nat.zero_le _,rfl,rfl,rfl, .refl _,rfl⟩ ?_
 rintro k e ds G ⟨t,ht24,rfl,rfl,rfl,xG,hno⟩;have WG:=xG.wf W;have hLG:=xG.log.trans hL;have gA1:=(xG.old _ (by omega)).trans gA;have gB1:=(xG.old _ (by omega)).trans gB;have gC1:=(xG.old _ (by omega)).trans gC;have nG:=xG.next
 by_cases ht:t<24
 ·have hps:=rq b t;have hbp:=oM (ek b t);have D1:=Fl F.tr (h:={G with log:=[]}) (.of WG) hb ht;have hall:=λx y z (r:Rng (dB (ek b t)).1 x y z) (c:Ce) (hc:c∈aW (ek b t) 512)=>r.all (eE.1 hc);have hT:vf a b t=Lv a (ek b t) (dB (ek b t)).1:=rfl;have hyes:vf a b t=true->A0 a b=true:=λq=>by
   rw[hrb];exact List.any_eq_true.2 ⟨t,List.mem_range.2 ht,q⟩
  have hnext:vf a b t=false->(List.range (t+1)).any (vf a b)=false:=λq=>by
   rw[List.range_succ];exact ql hno q
  have hmok:=λx y z (r:Rng (dB (ek b t)).1 x y z)=>uF r;rw[hT]at hyes hnext;clear hT;generalize hbb:dB (ek b t)=bb at*;generalize ek b t=p at*;obtain⟨bp,some'⟩:=bb;dsimp only at hbp hyes hnext hall hmok;have kp8:=aR hps.len;have kp9:=bR hps.len;have kpl:=hps.len;have mlt:ah .lss (.int .i64 (t:Nat)) (.int .i64 24)=some (.bool true):=dG (by omega);refine Y10 ?_;refine aX (E0:=[(2, .pointer (some ⟨h.next,0,none⟩)),(3, .pointer (some ⟨h.next+1,0,none⟩)),(4, .pointer (some ⟨h.next+2,0,none⟩)),(6, .int .i64 (t:Nat)),(7, .pointer (some ⟨G.next,0,none⟩))]) (P:=λh'=>Ext G h'∧h'.next=G.next+1/\h'.get G.next=some (.cells (us p) true 1)) ?_ ?_
  ·refine Y4 ?_;refine FW.pu D1 ?_;refine Y4 ?_;refine aA (bh (by exact rfl) (by exact rfl) YG (by(simp only[aI];assumption)) (by exact rfl) (by exact cg _)) ?_;refine yM ?_;refine aO ?_;refine y1 ?_;refine⟨rfl,rfl,rfl,(by first|exact dI (by omega) _ _|skip),rfl,?_⟩
   (simp(disch:=first|omega|(simp only[z1,z2];omega))only[z3,z4,z5,z6,z7,z1,z2,gA,gB,gC,gA1,gB1,gC1];done)
  clear D1;rintro G1 ⟨x1,n1,q1⟩;have WG1:=x1.wf WG;have D2:=D0 F.tr F.f138 (h:={G1 with log:=[]}) (.of WG1) hps;rw[hbb]at D2;unfold Gh at D2;dsimp only at D2;refine aX (E0:=[(2, .pointer (some ⟨h.next,0,none⟩)),(3, .pointer (some ⟨h.next+1,0,none⟩)),(4, .pointer (some ⟨h.next+2,0,none⟩)),(6, .int .i64 (t:Nat)),(7, .pointer (some ⟨G.next,0,none⟩)),(9, .pointer (some ⟨G1.next,0,none⟩))]) (P:=λh'=>Ext G1 h'∧h'.next=G1.next+1/\h'.get G1.next=some (.cells (bxL bp) true 1)) ?_ ?_
  ·refine Y3 ?_;refine FW.pu D2 ?_;refine Y6 ?_;refine aO ?_;refine y1 ?_;exact⟨rfl,rfl,rfl,dI (by omega) _ _,rfl,ef _ _⟩
  clear D2;rintro G2 ⟨x2,n2,q2⟩;have xH:=(xG.trans x1).trans x2;have qp:=(x2.old _ (by omega)).trans q1;clear q1 WG1 gA1 gB1 gC1;rw[n1]at q2 n2⊢;have hnn:H.next<=G.next:=nG
  clear x1 x2 n1 WG hLG xG nG;generalize G.next=q at*
  have px1:=hbp.lo.x;have px2:=hbp.hi.x;have py1:=hbp.lo.y;have py2:=hbp.hi.y;have pz1:=hbp.lo.z;have pz2:=hbp.hi.z;have nx:=BN px1;have ny:=BN py1;have nz:=BN pz1;have sx:=dn px2;have sy:=dn py2;have sz:=dn pz2;refine Y4 ?_;refine aA (FT (by exact rfl) (by assumption)) ?_;refine Y3 ?_
  refine bW (λk e ds h'=>∃(n:Nat) (z:Int),z= -bp.lo.z+(n:Nat)/\(n=0∨z<=7-bp.hi.z+1)/\16-n=k/\e=[(2, .pointer (some ⟨h.next,0,none⟩)),(3, .pointer (some ⟨h.next+1,0,none⟩)),(4, .pointer (some ⟨h.next+2,0,none⟩)),(6, .int .i64 (t:Nat)),(7, .pointer (some ⟨q,0,none⟩)),(9, .pointer (some ⟨q+1,0,none⟩)),(11, .int .i64 z)]/\ds=[]/\Ext G2 h'∧(zrN (-bp.lo.z) n).any (EV a p bp)=false)
   ⟨0,_,by simp, .inl rfl,rfl,rfl,rfl, .refl _,rfl⟩ ?_
  rintro k e ds G3 ⟨n,z,hz,hn,rfl,rfl,rfl,x3,noz⟩;have hn16:n<16:=by omega
  have q3:=(x3.old _ (by omega)).trans q2;by_cases hle:z<=7-bp.hi.z
  ·have lz:ah .leq (.int .i64 z) (.int .i64 (7-bp.hi.z))=some (.bool true):=kQ hle;have az:ah .add (.int .i64 z) (.int .i64 1)=some (.int .i64 (z+1)):=iD (bJ (by omega) (by omega));have mz:=qc hz hle;have snz:EV a p bp z=false->(zrN (-bp.lo.z) (n+1)).any (EV a p bp)=false:=λq=>by rw[rH];exact ql noz (by rw[←hz];exact q)
   refine Y18 ?_;refine aA (FT (by exact rfl) (by assumption)) ?_;refine Y3 ?_
   refine bW (λk e ds h'=>∃(j:Nat) (y:Int),y= -bp.lo.y+(j:Nat)/\(j=0∨y<=7-bp.hi.y+1)/\16-j=k/\e=[(2, .pointer (some ⟨h.next,0,none⟩)),(3, .pointer (some ⟨h.next+1,0,none⟩)),(4, .pointer (some ⟨h.next+2,0,none⟩)),(6, .int .i64 (t:Nat)),(7, .pointer (some ⟨q,0,none⟩)),(9, .pointer (some ⟨q+1,0,none⟩)),(11, .int .i64 z),(12, .int .i64 y)]/\ds=[]/\Ext G2 h'∧(zrN (-bp.lo.y) j).any (EU a p bp z)=false)
    ⟨0,_,by simp, .inl rfl,rfl,rfl,rfl,x3,rfl⟩ ?_
   clear x3 q3;rintro k e ds G3 ⟨j,y,hy,hj,rfl,rfl,rfl,x3,noy⟩;have hj16:j<16:=by omega
   have q3:=(x3.old _ (by omega)).trans q2;by_cases hley:y<=7-bp.hi.y
   ·have ly:ah .leq (.int .i64 y) (.int .i64 (7-bp.hi.y))=some (.bool true):=kQ hley;have ay:ah .add (.int .i64 y) (.int .i64 1)=some (.int .i64 (y+1)):=iD (bJ (by omega) (by omega));have my:=qc hy hley;have sny:EU a p bp z y=false->(zrN (-bp.lo.y) (j+1)).any (EU a p bp z)=false:=λq=>by rw[rH];exact ql noy (by rw[←hy];exact q)
    refine Y18 ?_;refine aA (FT (by exact rfl) (by assumption)) ?_;refine Y3 ?_
    refine bW (λk e ds h'=>∃(i:Nat) (x:Int),x= -bp.lo.x+(i:Nat)/\(i=0∨x<=7-bp.hi.x+1)/\16-i=k/\e=[(2, .pointer (some ⟨h.next,0,none⟩)),(3, .pointer (some ⟨h.next+1,0,none⟩)),(4, .pointer (some ⟨h.next+2,0,none⟩)),(6, .int .i64 (t:Nat)),(7, .pointer (some ⟨q,0,none⟩)),(9, .pointer (some ⟨q+1,0,none⟩)),(11, .int .i64 z),(12, .int .i64 y),(13, .int .i64 x)]/\ds=[]/\Ext G2 h'∧(zrN (-bp.lo.x) i).any (BD a p z y)=false)
     ⟨0,_,by simp, .inl rfl,rfl,rfl,rfl,x3,rfl⟩ ?_
    clear x3 q3;rintro k e ds G3 ⟨i,x,hx,hi,rfl,rfl,rfl,x3,nox⟩;have hi16:i<16:=by omega
    have q3:=(x3.old _ (by omega)).trans q2;by_cases hlex:x<=7-bp.hi.x
    ·have lx:ah .leq (.int .i64 x) (.int .i64 (7-bp.hi.x))=some (.bool true):=kQ hlex;have ax:ah .add (.int .i64 x) (.int .i64 1)=some (.int .i64 (x+1)):=iD (bJ (by omega) (by omega));have mx':=qc hx hlex;have snx:BD a p z y x=false->(zrN (-bp.lo.x) (i+1)).any (BD a p z y)=false:=λq=>by rw[rH];exact ql nox (by rw[←hx];exact q)
     have hhit:BD a p z y x=sIn (kT (shC x y z) p) a:=rfl;have hfound:BD a p z y x=true->A0 a b=true:=λhh=>hyes (List.any_eq_true.2 ⟨z,mz,List.any_eq_true.2 ⟨y,my,List.any_eq_true.2 ⟨x,mx',hh⟩⟩⟩);have hrng:Rng bp x y z:=⟨by omega,by omega,by omega⟩;have WG3:=x3.wf (xH.wf W);have hL3:=x3.log.trans (xH.log.trans hL);have n3:=x3.next
     have qp3:=(x3.old _ (by omega)).trans qp;have D3:=Hz F.tr F.f225 (h:={G3 with log:=[]}) (.of WG3) hps (x:=x) (y:=y) (z:=z) ⟨by omega,by omega⟩ ⟨by omega,by omega⟩ ⟨by omega,by omega⟩ (hall x y z hrng);have hls:=hmok x y z hrng;generalize kT (shC x y z) p=ls at*;have kls:=bR hls.len;have kll:=aR hls.len;have klen:=hls.len;refine Y14 ?_;refine aX (E0:=[(2, .pointer (some ⟨h.next,0,none⟩)),(3, .pointer (some ⟨h.next+1,0,none⟩)),(4, .pointer (some ⟨h.next+2,0,none⟩)),(6, .int .i64 (t:Nat)),(7, .pointer (some ⟨q,0,none⟩)),(9, .pointer (some ⟨q+1,0,none⟩)),(11, .int .i64 z),(12, .int .i64 y),(13, .int .i64 x),(14, .pointer (some ⟨G3.next,0,none⟩))]) (P:=λh'=>Ext G3 h'∧h'.next=G3.next+1/\h'.get G3.next=some (.cells (us ls) true 1)) ?_ ?_
     ·refine Y6 ?_;refine FW.pu D3 ?_;refine Y4 ?_;refine aA (bh (by exact rfl) (by exact rfl) YG (by(simp only[aI];assumption)) (by exact rfl) (by exact cg _)) ?_;refine yM ?_;refine aO ?_;refine y1 ?_;refine⟨rfl,rfl,rfl,(by first|exact dI (by omega) _ _|skip),rfl,?_⟩
      (simp(disch:=first|omega|(simp only[z1,z2];omega))only[z3,z4,z5,z6,z7,z1,z2,gA,gB,gC,q2,qp,q3,qp3];done)
     clear D3 q3 qp3;rintro G4 ⟨x4,n4,q4⟩;have WG4:=x4.wf WG3;have hL4:=x4.log.trans hL3;have x34:=x3.trans x4;have gA4:=((xH.trans x34).old _ (by omega)).trans gA;have gC4:=((xH.trans x34).old _ (by omega)).trans gC;have D4:=M0 hp F.f52 F.f140 (h:={G4 with log:=[]}) (.of WG4) hls ha;refine Y4 ?_;refine FW.pu D4 ?_;clear D4;cases hin:sIn ls a with
     |false=>
      refine Y14 ?_;refine⟨16-(i+1),by omega,i+1,x+1,by omega, .inr (by omega),rfl,rfl,rfl,x34,snx (by rw[hhit];exact hin)⟩
     |true=>
      rw[hfound (by rw[hhit];exact hin)];have ck:bB 4 (bA 0 (moL t x y z))=moL t x y z:=rfl;refine Y33 ?_;refine fA ?_ (bH (own:=true) (s:=1) rfl ?_ ck rfl rfl) ⟨t,x,y,z,rfl⟩
      ·rw[Heap.aq (by show h.next<=h.next+2;omega)];exact hL4
      ·exact YG
    ·have lx:ah .leq (.int .i64 x) (.int .i64 (7-bp.hi.x))=some (.bool false):=lR (by omega);have hie:=oR (lo:= -bp.lo.x) (hi:=7-bp.hi.x) (n:=i) (by omega) (by omega);have e:EU a p bp z y=false:=by rw[hie]at nox;exact nox
     refine Y21 ?_;refine⟨16-(j+1),by omega,j+1,y+1,by omega, .inr (by omega),rfl,rfl,rfl,x3,sny e⟩
   ·have ly:ah .leq (.int .i64 y) (.int .i64 (7-bp.hi.y))=some (.bool false):=lR (by omega);have hje:=oR (lo:= -bp.lo.y) (hi:=7-bp.hi.y) (n:=j) (by omega) (by omega);have e:EV a p bp z=false:=by rw[hje]at noy;exact noy
    refine Y21 ?_;refine⟨16-(n+1),by omega,n+1,z+1,by omega, .inr (by omega),rfl,rfl,rfl,x3,snz e⟩
  ·have lz:ah .leq (.int .i64 z) (.int .i64 (7-bp.hi.z))=some (.bool false):=lR (by omega);have hne:=oR (lo:= -bp.lo.z) (hi:=7-bp.hi.z) (n:=n) (by omega) (by omega);have e:Lv a p bp=false:=by rw[hne]at noz;exact noz
   refine Y21 ?_;refine⟨24-(t+1),by omega,t+1,by omega,rfl,rfl,rfl,xH.trans x3,hnext e⟩
 ·obtain rfl:t=24:=by omega
  rw[hrb,hno];have mlt:ah .lss (.int .i64 ((24:Nat):Int)) (.int .i64 24)=some (.bool false):=rfl;have ck:bB 4 (bA 0 (moL 0 0 0 0))=moL 0 0 0 0:=rfl;refine Y17 ?_;refine fA ?_ (bH (own:=true) (s:=1) rfl ?_ ck rfl rfl) ⟨0,0,0,0,rfl⟩
  ·rw[Heap.aq (by show h.next<=h.next+2;omega)];exact hLG
  ·exact YG
def ssL(l:List (List Nat)):List Value:=l.flatMap us
structure SsQ (h:Heap) (v:Value) (l:List (List Nat)):Prop where
 sl:bS h 8 v l.length (ssL l)
 ok:∀s∈l,IsS s
structure MA (T:Nat->Option af):Prop where
 rf:FI T
 f31:T 31=some f31
theorem Pq(F:MA T){h:Heap}(hr:Rdy h){w:List Nat×List Nat}(hw:IsW w):Pu T 31 [wV w] h (.int .i64 (if sIn w.1 w.2 then 0 else 1)):=by
 have hp:=F.rf.tr.cr.hr.p;refine .of hp F.f31 hr rfl ?_;have hwc:cellsOf (wV w)=wL w:=by show(wL w).toArray.toList=_;simp
 have g0:(h.push (.cells (cellsOf (wV w)) true 1)).get h.next=some (.cells (wL w) true 1):=by rw[hwc];exact z3 h _
 have W:WF (h.push (.cells (cellsOf (wV w)) true 1)):=hr.wf.push _;have hL:(h.push (.cells (cellsOf (wV w)) true 1)).log=[]:=hr.log;refine Y4 ?_;generalize(h.push (.cells (cellsOf (wV w)) true 1))=H at*;have C:=M0 hp F.rf.f52 F.rf.f140 (h:={H with log:=[]}) (.of W) hw.a hw.b;have wa:=Mb hw;have wb:=JK hw;have wka:=aR hw.a.len;have wkb:=aR hw.b.len;cases hin:sIn w.1 w.2 with
 |true=>
  rw[hin]at C;rw[if_pos rfl];refine Y7 ?_;refine FW.pu C ?_;refine Y9 ?_;exact ak hL rfl rfl
 |false=>
  rw[hin]at C;rw[if_neg (by simp)];refine Y7 ?_;refine FW.pu C ?_;refine Y8 ?_;exact ak hL rfl rfl
end Go.A.Pk
end
section
namespace Go.A.Pk
open Go.Sort
variable {P:Program}
end Go.A.Pk
end
section
namespace Go.A.Pk
variable {T:Nat->Option af}
def tv(P:List Nat->Bool):List (List Nat)->Nat->Int
 |[],_=> -1
 |r::l,i=>if P r then(i:Int)else tv P l (i+1)
end Go.A.Pk
end
