/- Walks of functions, plain laws, the table. -/
import Derived.Test.YtgffeapobcfigaaGreatDoorNU3
import Derived.Test.YtgffeapobcfigaaGreatDoorNU0
import Derived.Test.YtgffeapobcfigaaGreatDoorNH
import Derived.Test.YtgffeapobcfigaaGreatDoorNT
import Derived.KernelRfl
import Derived.Test.YtgffeapobcfigaaGreatDoorND
set_option linter.all false
section
set_option maxRecDepth 100000
namespace Go.A.Pk
variable {T:Nat→Option ah}
theorem pT{α:Type}{p q:α→Bool}(h:∀x,q x=true→p x=true):∀l:List α,(l.filter fun x=>p x&& !q x).length+(l.filter q).length=(l.filter p).length
 |[]=>rfl
 |x::l=>by
  have ih:=pT h l
  rw[List.filter_cons,List.filter_cons,List.filter_cons]
  cases hq:q x with
  |true=>rw[h x hq];simp only[Bool.not_true,Bool.and_false,if_true,List.length_cons];rw[if_neg (by simp)];omega
  |false=>
   cases hp:p x with
   |true=>rw[if_pos (by rfl),if_neg (by simp),if_pos rfl,List.length_cons,List.length_cons];omega
   |false=>rw[if_neg (by simp),if_neg (by simp),if_neg (by simp)];exact ih
theorem FG{a b:List Nat}(ha:IsS a)(hb:IsS b)(h:sIn a b=true):ei (dS b a)+ei a=ei b:=by
 have hs:=(Cu ha hb).1 h
 unfold ei aR
 rw[←pT (p:=dY b) (q:=dY a) hs]
 congr 2
 refine List.filter_congr fun c _=> ?_
 exact CX hb ha c
structure BF (T:Nat→Option ah):Prop where
 rn:Ko T
 rs:Kp T
 f23:T 23=some f23
 f94:T 94=some f94
 f198:T 198=some f198
theorem JO(F:BF T){h:Heap}(hr:Rdy h){w:List Nat×List Nat}(hw:IsW w):Pu T 198 [wV w] h (sv (dS w.2 w.1)):=by
 have hp:=F.rn.rp.im.pt.p
 refine .of hp F.f198 hr (oQ _) ?_
 have hwc:cellsOf (wV w)=wL w:=by show(wL w).toArray.toList=_;simp
 have g0:((h.push (.cells (cellsOf (wV w)) true 1)).push (.cells (aM 8 (.int .u64 0)) true 1)).get h.next=some (.cells (wL w) true 1):=by rw[hwc];exact(z4 (Nat.lt_succ_self _)).trans (z3 h _)
 have g1:((h.push (.cells (cellsOf (wV w)) true 1)).push (.cells (aM 8 (.int .u64 0)) true 1)).get (h.next+1)=some (.cells (us s0) true 1):=z3 _ _
 have n0:((h.push (.cells (cellsOf (wV w)) true 1)).push (.cells (aM 8 (.int .u64 0)) true 1)).next=h.next+2:=rfl
 have x0:Ext h ((h.push (.cells (cellsOf (wV w)) true 1)).push (.cells (aM 8 (.int .u64 0)) true 1)):=((Ext.refl h).push _).push _
 refine y4 ?_;refine yB ?_;refine ak (cQ) ?_;refine y3 ?_
 generalize((h.push (.cells (cellsOf (wV w)) true 1)).push (.cells (aM 8 (.int .u64 0)) true 1))=H at*
 have W:=x0.wf hr.wf
 have hL:=x0.log.trans hr.log
 have wa:=DF hw
 have wb:=AV hw
 have wka:=aP hw.a.len
 have wkb:=aP hw.b.len
 have hls:=hw.b.less hw.a
 have C:=th hp F.rn.rp.im.rf.f140 (h:={H with log:=[]}) (.of W) hw.b hw.a
 generalize dS w.2 w.1=ls at*
 have kl8:=aP hls.len
 have kl9:=bq hls.len
 have kll:=hls.len
 refine y4 ?_;refine yF ?_;refine yV ?_;refine yF ?_;refine yV ?_
 refine yC ?_
 refine FW.pu C ?_
 refine ak (cO (by exact rfl) (by exact rfl) (by assumption) (by(simp only[aH];assumption)) (by exact rfl) (by exact cW _)) ?_;refine y3 ?_;refine aJ ?_
 refine aF ?_ (bY (own:=true) (s:=1) rfl ?_ kl9 kl8 rfl) rfl
 ·rw[Heap.aC (by show h.next≤h.next+1;omega)];exact hL
 ·(simp(disch:=first|omega|(simp only[z1,z2];omega))only[z3,z4,z5,z6,z7,z1,z2,g0,g1];done)
theorem La(F:BF T){h:Heap}(hr:Rdy h){w:List Nat×List Nat}(hw:IsW w)(hin:sIn w.1 w.2=true):Pu T 94 [wV w] h (.int .i64 (if qw w then 82 else 0)):=by
 have hp:=F.rn.rp.im.pt.p
 refine .of hp F.f94 hr rfl ?_
 have hwc:cellsOf (wV w)=wL w:=by show(wL w).toArray.toList=_;simp
 have g0:(h.push (.cells (cellsOf (wV w)) true 1)).get h.next=some (.cells (wL w) true 1):=by rw[hwc];exact z3 h _
 have W:WF (h.push (.cells (cellsOf (wV w)) true 1)):=hr.wf.push _
 have hL:(h.push (.cells (cellsOf (wV w)) true 1)).log=[]:=hr.log
 refine y4 ?_;refine yB ?_;refine yM ?_;refine y3 ?_
 generalize(h.push (.cells (cellsOf (wV w)) true 1))=H at*
 have wk:=rU hw
 have wkl:=oI hw
 have C1:=JO F (h:={H with log:=[]}) (.of W) hw
 have C2:=xy F.rn.rp.im.rf.tr.cr F.rn.rp.im.rf.f84 (h:={H with log:=[]}) (.of W) (hw.b.less hw.a)
 have hc:=FG hw.a hw.b hin
 have hm:qw w=decide (64<ei (dS w.2 w.1)):=by
  unfold qw
  by_cases q:64<ei (dS w.2 w.1)
  ·rw[decide_eq_true q,decide_eq_true (by omega)]
  ·rw[decide_eq_false q,decide_eq_false (by omega)]
 rw[hm]
 generalize ei (dS w.2 w.1)=n at*
 by_cases q:64<n
 ·have m1:aq .gtr (.int .i64 (n:Nat)) (.int .i64 64)=some (.bool true):=jj (by omega)
  rw[if_pos (by rw[decide_eq_true q])]
  refine af ?_;refine y4 ?_;refine yV ?_
  refine yC ?_
  refine FW.pu C1 ?_
  clear C1
  skip
  refine yC ?_
  refine FW.pu C2 ?_
  clear C2
  refine yW ?_;refine y3 ?_;refine yY ?_;refine y4 ?_;refine yM ?_;refine y3 ?_;refine aJ ?_;refine eC ?_
  exact aF hL rfl rfl
 ·have m1:aq .gtr (.int .i64 (n:Nat)) (.int .i64 64)=some (.bool false):=jA (by omega)
  rw[if_neg (by rw[decide_eq_false q];simp)]
  refine af ?_;refine y4 ?_;refine yV ?_
  refine yC ?_
  refine FW.pu C1 ?_
  clear C1
  skip
  refine yC ?_
  refine FW.pu C2 ?_
  clear C2
  refine yW ?_;refine y3 ?_;refine yX ?_;refine aB ?_;refine aN ?_;refine y4 ?_;refine yM ?_;refine y3 ?_;refine aJ ?_
  exact aF hL rfl rfl
set_option maxHeartbeats 8000000 in
theorem GK(F:BF T){h:Heap}(hr:Rdy h){w:List Nat×List Nat}(hw:IsW w){o:List Nat}(ho:IsS o):Al T 23 [wV w,sv o] h fun v h'=>∃u,v= .tuple #[u, .int .i64 (jP w o).2]∧Own h.next h' 8 u (jP w o).1.length (ssL (jP w o).1):=by
 have hp:=F.rn.rp.im.pt.p
 refine .of hp F.f23 hr (fun v h1 hv ⟨u,e,q⟩=>⟨u,e,by subst e;exact Own.KA hv q⟩) ?_
 have hwc:cellsOf (wV w)=wL w:=by show(wL w).toArray.toList=_;simp
 have g0:((h.push (.cells (cellsOf (wV w)) true 1)).push (.cells (cellsOf (sv o)) true 1)).get h.next=some (.cells (wL w) true 1):=by rw[hwc];exact(z4 (Nat.lt_succ_self _)).trans (z3 h _)
 have g1:((h.push (.cells (cellsOf (wV w)) true 1)).push (.cells (cellsOf (sv o)) true 1)).get (h.next+1)=some (.cells (us o) true 1):=z3 _ _
 have n0:((h.push (.cells (cellsOf (wV w)) true 1)).push (.cells (cellsOf (sv o)) true 1)).next=h.next+2:=rfl
 have x0:Ext h ((h.push (.cells (cellsOf (wV w)) true 1)).push (.cells (cellsOf (sv o)) true 1)):=((Ext.refl h).push _).push _
 refine y4 ?_;refine yB ?_;refine yB ?_;refine yM ?_;refine yM ?_;refine y3 ?_
 generalize((h.push (.cells (cellsOf (wV w)) true 1)).push (.cells (cellsOf (sv o)) true 1))=H at*
 have W:=x0.wf hr.wf
 have hL:=x0.log.trans hr.log
 have wk:=rU hw
 have wkl:=oI hw
 have k8:=aP ho.len
 have k9:=bq ho.len
 have C1:=LW F.rs (h:={H with log:=[]}) (.of W) hw
 unfold jP
 cases hin:sIn w.1 w.2 with
 |false=>
  rw[hin,if_neg (by simp)]at C1
  rw[if_pos (.inl rfl)]
  refine y4 ?_;refine yV ?_
  refine yC ?_
  refine FW.pu C1 ?_
  refine yM ?_;refine y3 ?_;refine af ?_;refine y4 ?_;refine yM ?_;refine yf ?_;refine y3 ?_;refine yX ?_;refine aB ?_;refine aN ?_;refine af ?_;refine y4 ?_;refine yM ?_;refine yf ?_;refine y3 ?_;refine yX ?_;refine aB ?_;refine aN ?_;refine af ?_;refine y4 ?_;refine yM ?_;refine yt ?_;refine y3 ?_;refine yY ?_;refine y4 ?_;refine yM ?_;refine yM ?_;refine yM ?_;refine y3 ?_;refine aJ ?_;refine eC ?_
  exact dN hL rfl ⟨_,rfl, .nil⟩
 |true=>
  rw[hin,if_pos rfl]at C1
  have hs1:ssL [o]=us o:=by simp[ssL]
  have s2:SsQ {H.push (.cells (us o) true 8)with log:=[]} (.slice (some ⟨H.next,0,none⟩) 1 1) [o]:=by
   refine⟨.mem ⟨Nat.lt_succ_self _,⟨_,_,_,z3 _ _,?_⟩,?_⟩ (Nat.le_refl _),fun s hs=>by rw[List.mem_singleton.1 hs];exact ho⟩
   ·rw[hs1];exact k9
   ·rw[hs1,aH,ho.len]
  have C2:=HN hp F.rs.f93 (h:={H.push (.cells (us o) true 8)with log:=[]}) (.of (W.push _)) s2 (by decide)
  have x1:Ext H (H.push (.cells (us o) true 8)):=(Ext.refl H).push _
  have n1:(H.push (.cells (us o) true 8)).next=H.next+1:=rfl
  unfold MX at C2
  by_cases hz:o=s0
  ·rw[if_pos (.inr hz)]
   rw[if_neg (by simp),if_pos (by simp[hz])]at C2
   refine y4 ?_;refine yV ?_
   refine yC ?_
   refine FW.pu C1 ?_
   clear C1
   refine yM ?_;refine y3 ?_;refine af ?_;refine y4 ?_;refine yM ?_;refine yt ?_;refine y3 ?_;refine yY ?_;refine aA ?_;refine yV ?_
   refine ak (iH (oK ho (by exact rfl)) (show bR (aM 8 (Value.int IntKind.u64 0))=8 from rfl)) ?_
   skip
   refine yC ?_
   refine FW.pu C2 ?_
   refine yM ?_;refine y3 ?_;refine af ?_;refine y4 ?_;refine yM ?_;refine yf ?_;refine y3 ?_;refine yX ?_;refine aB ?_;refine aN ?_;refine af ?_;refine y4 ?_;refine yM ?_;refine yt ?_;refine y3 ?_;refine yY ?_;refine y4 ?_;refine yM ?_;refine yM ?_;refine yM ?_;refine y3 ?_;refine aJ ?_;refine eC ?_
   exact dN hL rfl ⟨_,rfl, .nil⟩
  ·rw[if_neg (fun q=>q.elim (by simp) hz)]
   rw[if_neg (by simp),if_neg (by simp[hz])]at C2
   refine y4 ?_;refine yV ?_
   refine yC ?_
   refine FW.pu C1 ?_
   clear C1
   refine yM ?_;refine y3 ?_;refine af ?_;refine y4 ?_;refine yM ?_;refine yt ?_;refine y3 ?_;refine yY ?_;refine aA ?_;refine yV ?_
   refine ak (iH (oK ho (by exact rfl)) (show bR (aM 8 (Value.int IntKind.u64 0))=8 from rfl)) ?_
   skip
   generalize(H.push (.cells (us o) true 8))=H1 at*
   refine yC ?_
   refine FW.pu C2 ?_
   clear C2 s2
   have ey1':=x0.trans x1
   have W1:=ey1'.wf hr.wf
   have g01:=(x1.old _ (by omega)).trans g0
   have g11:=(x1.old _ (by omega)).trans g1
   have hL1:=x1.log.trans hL
   have C3:=La F (h:={H1 with log:=[]}) (.of W1) hw hin
   clear g0 g1
   cases hm:qw w with
   |true=>
    rw[hm,if_pos rfl]at C3
    rw[if_pos rfl]
    refine yM ?_;refine y3 ?_;refine af ?_;refine y4 ?_;refine yM ?_;refine yt ?_;refine y3 ?_;refine yY ?_;refine aA ?_;refine yV ?_
    refine yC ?_
    refine FW.pu C3 ?_
    refine yM ?_;refine y3 ?_;refine af ?_;refine y4 ?_;refine yM ?_;refine yt ?_;refine y3 ?_;refine yY ?_;refine y4 ?_;refine yM ?_;refine yM ?_;refine yM ?_;refine y3 ?_;refine aJ ?_;refine eC ?_
    exact dN hL1 rfl ⟨_,rfl, .nil⟩
   |false=>
    rw[hm,if_neg (by simp)]at C3
    rw[if_neg (by simp)]
    have C4:=Ie F.rn (h:={H1 with log:=[]}) (.of W1) hw ho hz
    refine yM ?_;refine y3 ?_;refine af ?_;refine y4 ?_;refine yM ?_;refine yt ?_;refine y3 ?_;refine yY ?_;refine aA ?_;refine yV ?_
    refine yC ?_
    refine FW.pu C3 ?_
    clear C3
    refine yM ?_;refine y3 ?_;refine af ?_;refine y4 ?_;refine yM ?_;refine yf ?_;refine y3 ?_;refine yX ?_;refine aB ?_;refine aN ?_;refine y4 ?_;refine yV ?_
    refine yV ?_
    refine yC ?_
    refine FW.al C4 (fun v h' m q=>q.log m) ?_
    rintro v H2 x2 q2
    have q2:Own H1.next H2 8 v (nO w o).length (ssL (nO w o)):=q2
    have n2:=x2.next
    refine yM ?_;refine yM ?_;refine y3 ?_;refine aJ ?_
    exact dN (x2.log.trans hL1) rfl ⟨_,rfl,q2.low (by omega)⟩
set_option maxHeartbeats 4000000 in
theorem wm(hp:bg T)(hf:T 24=some f24){h:Heap}(hr:Rdy h){v1 v2:Value}{l:List (List Nat)}(s1:SsQ h v1 l)(s2:SsQ h v2 l)(hn:l.length<1000000):Pu T 24 [v1,v2] h (.bool true):=by
 refine .of hp hf hr rfl ?_
 have hL:=hr.log
 obtain⟨a1,c1,rfl⟩:=s1.sl.form
 obtain⟨a2,c2,rfl⟩:=s2.sl.form
 have m0:aq .neq (.int .i64 (l.length:Nat)) (.int .i64 (l.length:Nat))=some (.bool false):=AM rfl
 refine y4 ?_;refine yM ?_;refine y3 ?_;refine af ?_;refine y4 ?_;refine yM ?_;refine yD ?_;refine yM ?_
 refine yD ?_;refine yW ?_;refine y3 ?_;refine yX ?_;refine aB ?_;refine aN ?_;refine af ?_;refine y4 ?_
 refine yM ?_;refine y3 ?_;refine au ?_
 refine cG (fun m e ds h'=>∃i:Nat,i≤l.length∧l.length-i=m∧e=[(0, .slice a1 l.length c1),(1, .slice a2 l.length c2),(5, .int .i64 (i:Nat))]∧ds=[]∧h=h')
  ⟨0,Nat.zero_le _,rfl,rfl,rfl,rfl⟩ ?_
 rintro m e ds _ ⟨i,hi,rfl,rfl,rfl,rfl⟩
 by_cases hlt:i<l.length
 ·obtain⟨x,hx⟩:∃s,l[i]? =some s:=⟨l[i],List.getElem?_eq_getElem hlt⟩
  have hxs:=s1.ok x (List.mem_of_getElem? hx)
  have kx8:=aP hxs.len
  obtain⟨b1,o1,q1,vs1,own1,t1,hv,gl1,hbl1,el1⟩:=s1.elem hx
  cases hv
  obtain⟨b2,o2,q2,vs2,own2,t2,hv,gl2,hbl2,el2⟩:=s2.elem hx
  cases hv
  have mlt:aq .lss (.int .i64 (i:Nat)) (.int .i64 (l.length:Nat))=some (.bool true):=fm (by omega)
  refine af ?_;refine y4 ?_;refine yM ?_;refine yM ?_;refine yD ?_;refine yW ?_;refine y3 ?_
  refine yY ?_;refine aB ?_;refine aN ?_;refine af ?_;refine au ?_;refine af ?_;refine bQ ?_;refine qM ?_;refine qM ?_
  refine qI ?_;refine qV ?_;refine qM ?_
  refine qM ?_;refine qI ?_;refine qV ?_
  refine aI rfl rfl rfl (by exact rfl) (by exact rfl) (by exact rfl) (iZ (b:=x) (by exact rfl) (by exact rfl) hxs.len hxs.len) ?_
  rw[decide_eq_true (rfl:x=x)]
  refine cK ?_;refine y1 ?_;refine aN ?_;refine yX ?_;refine aB ?_;refine eD ?_;refine aN ?_;refine aA ?_;refine yM ?_;refine fE ?_
  refine yM ?_;refine y3 ?_
  exact⟨l.length-(i+1),by omega,i+1,by omega,rfl,rfl,rfl,rfl⟩
 ·obtain rfl:i=l.length:=by omega
  have mlt:aq .lss (.int .i64 (l.length:Nat)) (.int .i64 (l.length:Nat))=some (.bool false):=fF (by omega)
  refine af ?_;refine y4 ?_;refine yM ?_;refine yM ?_;refine yD ?_;refine yW ?_;refine y3 ?_
  refine yX ?_;refine cA ?_;refine dy ?_;refine dy ?_;refine fV ?_;refine aN ?_;refine y4 ?_;refine yM ?_;refine y3 ?_;refine aJ ?_
  exact aF hL rfl rfl
structure KJ (T:Nat→Option ah):Prop where
 ne:Ci T
 n3:BF T
 lt:Kw T
 f3:T 3=some f3
 f21:T 21=some (.jV pSd)
 f24:T 24=some f24
set_option maxHeartbeats 16000000 in
theorem Qb(F:KJ T){h:Heap}(hr:Rdy h)(hg:Tab h)(h2:2<h.next){w:List Nat×List Nat}(hw:IsW w){o:List Nat}(ho:IsS o):Pu T 3 [wV w,sv o] h (.bool true):=by
 have hp:=F.n3.rn.rp.im.pt.p
 refine .of hp F.f3 hr rfl ?_
 have hwc:cellsOf (wV w)=wL w:=by show(wL w).toArray.toList=_;simp
 have g0:((h.push (.cells (cellsOf (wV w)) true 1)).push (.cells (cellsOf (sv o)) true 1)).get h.next=some (.cells (wL w) true 1):=by rw[hwc];exact(z4 (Nat.lt_succ_self _)).trans (z3 h _)
 have g1:((h.push (.cells (cellsOf (wV w)) true 1)).push (.cells (cellsOf (sv o)) true 1)).get (h.next+1)=some (.cells (us o) true 1):=z3 _ _
 have n0:((h.push (.cells (cellsOf (wV w)) true 1)).push (.cells (cellsOf (sv o)) true 1)).next=h.next+2:=rfl
 have x0:Ext h ((h.push (.cells (cellsOf (wV w)) true 1)).push (.cells (cellsOf (sv o)) true 1)):=((Ext.refl h).push _).push _
 refine y4 ?_;refine yB ?_;refine yB ?_;refine yM ?_;refine y3 ?_
 generalize((h.push (.cells (cellsOf (wV w)) true 1)).push (.cells (cellsOf (sv o)) true 1))=H at*
 have W:=x0.wf hr.wf
 have hL:=x0.log.trans hr.log
 have wk:=rU hw
 have wkl:=oI hw
 have k8:=aP ho.len
 have k9:=bq ho.len
 have hgH:Tab H:=hg.ext x0 h2
 have hs1:ssL [o]=us o:=by simp[ssL]
 have s2:SsQ {H.push (.cells (us o) true 8)with log:=[]} (.slice (some ⟨H.next,0,none⟩) 1 1) [o]:=by
  refine⟨.mem ⟨Nat.lt_succ_self _,⟨_,_,_,z3 _ _,?_⟩,?_⟩ (Nat.le_refl _),fun s hs=>by rw[List.mem_singleton.1 hs];exact ho⟩
  ·rw[hs1];exact k9
  ·rw[hs1,aH,ho.len]
 have C1:=IM F.lt (h:={H.push (.cells (us o) true 8)with log:=[]}) (.of (W.push _)) hw s2 (by decide)
 have x1:Ext H (H.push (.cells (us o) true 8)):=(Ext.refl H).push _
 have n1:(H.push (.cells (us o) true 8)).next=H.next+1:=rfl
 have C0:Pu T 21 [] {H.push (.cells (us o) true 8)with log:=[]} (.bool true):=OE F.f21 (show Tab (H.push (.cells (us o) true 8))from hgH.ext x1 (by omega))
 refine af ?_;refine y4 ?_;refine yV ?_;refine yV ?_
 refine ak (iH (oK ho (by exact rfl)) (show bR (aM 8 (Value.int IntKind.u64 0))=8 from rfl)) ?_
 generalize(H.push (.cells (us o) true 8))=H1 at*
 have hL1:=x1.log.trans hL
 have g01:=(x1.old _ (by omega)).trans g0
 have g11:=(x1.old _ (by omega)).trans g1
 have ey1':=x0.trans x1
 have W1:=ey1'.wf hr.wf
 have hg1:Tab H1:=hgH.ext x1 (by omega)
 clear s2
 cases hlb:Ap w [o]with
 |false=>
  rw[hlb]at C1
  skip
  refine yC ?_
  refine FW.pu C1 ?_
  refine yA ?_;refine y3 ?_;refine yY ?_;refine y4 ?_
  refine yC ?_
  refine FW.pu C0 ?_
  refine yM ?_;refine y3 ?_;refine aJ ?_;refine eC ?_
  exact aF hL1 rfl rfl
 |true=>
  rw[hlb]at C1
  clear C0 g0 g1
  have C2:=IE F.ne (h:={H1 with log:=[]}) (.of W1) (show Tab H1 from hg1) (by show 2<H1.next;omega) hw ho
  have hnl:(jP w o).1.length≤98304:=by
   unfold jP
   split
   ·exact Nat.zero_le _
   ·split
    ·exact Nat.zero_le _
    ·exact DS w o
  have hnok:∀s∈(jP w o).1,IsS s:=by
   unfold jP
   split
   ·intro s hs;cases hs
   ·split
    ·intro s hs;cases hs
    ·intro s hs;exact Gj hw hs
  skip
  refine yC ?_
  refine FW.pu C1 ?_
  clear C1
  refine yA ?_;refine y3 ?_;refine yX ?_;refine aB ?_;refine aN ?_;refine y4 ?_;refine yV ?_
  refine yV ?_
  refine yC ?_
  refine FW.al C2 (fun v h' m ⟨u,e,q⟩=>⟨u,e,q.log m⟩) ?_
  rintro _ H2 x2 ⟨u,rfl,q2⟩
  clear C2
  have q2:OwS H1.next H2 u (jP w o).1:=q2
  have ey2':=ey1'.trans x2
  have W2:=ey2'.wf hr.wf
  have hL2:=x2.log.trans hL1
  have n2:=x2.next
  have g02:=(x2.old _ (by omega)).trans g01
  have g12:=(x2.old _ (by omega)).trans g11
  have C3:=GK F.n3 (h:={H2 with log:=[]}) (.of W2) hw ho
  have s1:SsQ H2 u (jP w o).1:=q2.ss hnok
  clear g01 g11 q2
  generalize(jP w o).2=er at*
  generalize(jP w o).1=l at*
  refine yM ?_;refine yE ?_;refine yE ?_;refine yM ?_;refine yM ?_;refine y3 ?_;refine y4 ?_;refine yV ?_;refine yV ?_
  refine yC ?_
  refine FW.al C3 (fun v h' m ⟨u,e,q⟩=>⟨u,e,q.log m⟩) ?_
  rintro _ H3 x3 ⟨u3,rfl,q3⟩
  clear C3
  have W3:=x3.wf W2
  have hL3:=x3.log.trans hL2
  have s3:SsQ H3 u3 l:=⟨(q3.log H3.log).slice (by omega),hnok⟩
  have hg3:Tab H3:=hg1.ext (x2.trans x3) (by omega)
  have C4:=wm hp F.f24 (h:={H3 with log:=[]}) (.of W3) ((s1.ext x3).log []) (s3.log []) (by omega)
  have C5:Pu T 21 [] {H3 with log:=[]} (.bool true):=OE F.f21 (show Tab H3 from hg3)
  have me:aq .eql (.int .i64 er) (.int .i64 er)=some (.bool true):=F5 rfl
  refine yM ?_;refine yE ?_;refine yE ?_;refine yM ?_;refine yM ?_;refine y3 ?_;refine y4 ?_
  refine yC ?_
  refine FW.pu C5 ?_
  clear C5
  refine yM ?_;refine yO ?_;refine yM ?_;refine yO ?_;refine yM ?_;refine yO ?_
  refine yC ?_
  refine FW.pu C4 ?_
  clear C4
  refine yT ?_;refine yM ?_;refine yO ?_;refine yM ?_;refine yO ?_;refine yM ?_;refine yO ?_;refine yW ?_
  refine yT ?_;refine yM ?_;refine y3 ?_;refine aJ ?_
  exact aF hL3 rfl rfl
end Go.A.Pk
end
section
set_option maxRecDepth 100000
namespace Go.A.Pk
open Go Go.Proofs
theorem NS:mI.h0=CS 2 (zI.map fun n=> .int .u8 (n:Nat)) 1000:=by kernel_rfl
theorem QI:Entry Tryz.prog 21 (.jV pSd):= .jV (HO sound (g:=2) (n:=1000) (vs:=zI.map fun n=> .int .u8 (n:Nat)) Tryz.func21 (of_decide_eq_true (by kernel_rfl)) (by kernel_rfl) mh (by decide) (by kernel_rfl) (by kernel_rfl) fun args v h h' hp=>by
 unfold pSd at hp
 split at hp
 ·split at hp
  ·rename_i hT
   cases hp
   refine⟨rfl,hT,fun a ha=>(nomatch ha),rfl,?_⟩
   rw[←NS]
   exact mI.run
  ·cases hp
 ·cases hp)
end Go.A.Pk
end
section
set_option maxRecDepth 100000
namespace Go.A.Pk
open Go Go.Proofs Go.Joins Go.ChangeShapes Go.WideShapes Go.RowKit Go.Deep
section
variable {H:Type} {enc:TypeId×Value→H} {W:World} {base:Nat} {spare:Nat→Bool} {held:Bool}
theorem wK{t e:TypeId}{n:Nat}{v:Value}(ht:Tryz.prog.underlying t=some (.array n e))(h:Value.okWide Tryz.prog W .any base t v):∃cs,v= .agg cs:=by
 simp only[Value.okWide,ht]at h
 obtain⟨cs,h1,_⟩:=h
 exact⟨cs,h1⟩
theorem AU{v:Value}{d:DataW H}{p:List MemPlace}(hv:Value.okWide Tryz.prog W .any base 24 v)(h:DataW.Trod enc Tryz.prog W 0 spare held 24 v d p):∃s:List Nat,IsS s∧v=sv s:=by
 obtain⟨cs,rfl⟩:=wK Tryz.underlying24 hv
 obtain⟨fuel,hf⟩:=h
 obtain⟨s,hs,hk⟩:=nL hf
 refine⟨s,hs,?_⟩
 have:cs=(us s).toArray:=by rw[←hk];simp[Value.cells]
 rw[this];rfl
end
end Go.A.Pk
end
section
set_option maxRecDepth 100000
namespace Go.A.Pk
open Go Go.Proofs Go.Joins Go.ChangeShapes Go.WideShapes Go.RowKit Go.Deep
section
variable {H:Type} {enc:TypeId×Value→H} {W:World} {base:Nat} {spare:Nat→Bool} {held:Bool}
theorem JK:Tryz.prog.cellsOf 26=16:=by kernel_rfl
theorem Bn{fuel:Nat}{cs:List Value}{x:DataW H×List MemPlace}(h:DataW.trod enc Tryz.prog W base spare held fuel 26 cs=some x):∃w:List Nat×List Nat,IsW w∧cs=wL w:=by
 obtain⟨xs,n,_,hx,hcl,hlen,hg⟩:=DataW.trod_struct Tryz.underlying26 h
 rw[JK]at hcl
 match cs,hcl with
 |[c0,c1,c2,c3,c4,c5,c6,c7,c8,c9,c10,c11,c12,c13,c14,c15],_=>
  match xs,hlen with
  |[yq0,yq1],_=>
   have g0:DataW.trod enc Tryz.prog W base spare held n 24 [c0,c1,c2,c3,c4,c5,c6,c7]=some yq0:=by have:=hg 0 _ rfl;simpa[xW]using this
   have g1:DataW.trod enc Tryz.prog W base spare held n 24 [c8,c9,c10,c11,c12,c13,c14,c15]=some yq1:=by have:=hg 1 _ rfl;simpa[xW]using this
   obtain⟨s0,h0,e0⟩:=nL g0
   obtain⟨s1,h1,e1⟩:=nL g1
   refine⟨(s0,s1),⟨h0,h1⟩,?_⟩
   show _=us s0++us s1
   rw[←e0,←e1];rfl
theorem C7{v:Value}{d:DataW H}{p:List MemPlace}(hv:Value.okWide Tryz.prog W .any base 26 v)(h:DataW.Trod enc Tryz.prog W 0 spare held 26 v d p):∃w:List Nat×List Nat,IsW w∧v=wV w:=by
 obtain⟨cs,rfl,_⟩:=okWide_struct Tryz.underlying26 hv
 obtain⟨fuel,hf⟩:=h
 have hf:DataW.trod enc Tryz.prog W 0 spare held fuel 26 cs.toList=some (d,p):=by simpa[Value.cells]using hf
 obtain⟨w,hw,e⟩:=Bn hf
 refine⟨w,hw,?_⟩
 have hcs:cs=cs.toList.toArray:=by simp
 rw[hcs,e];rfl
end
end Go.A.Pk
end
section
set_option maxRecDepth 100000
namespace Go.A.Pk
open Go Go.Proofs
theorem c3:aK Tryz.prog Tryz.f3 [[2,3],[2,3,13],[4],[2,3,5,6],[5,6,7,8],[4]]=some f3:=by kernel_rfl
theorem c20:aK Tryz.prog Tryz.f20 [[1,2],[1,10],[4],[1,5],[1,5,17],[1,5,6],[1,5,34],[4],[1,5],[4]]=some f20:=by kernel_rfl
theorem c23:aK Tryz.prog Tryz.f23 [[2,3],[2,3,6],[2,3,6,10],[2,3,6],[2,3,6,15],[2,3,6],[2,3,6,19],[4,5],[4,5]]=some f23:=by kernel_rfl
theorem c31:aK Tryz.prog Tryz.f31 [[1],[8],[2],[2]]=some f31:=by kernel_rfl
theorem c35:aK Tryz.prog Tryz.f35 [[2,3],[4]]=some f35:=by kernel_rfl
theorem c49:aK Tryz.prog Tryz.f49 [[2,3],[2,3,6],[2,3,6,14],[2,3,6],[2,3,6,19],[4,5],[2,3,8],[8,10],[10,35],[4,5],[36],[4,5],[4,5]]=some f49:=by kernel_rfl
theorem c51:aK Tryz.prog Tryz.f51 [[2,3,4],[2,3,4,19],[4,5],[2,3,4,25],[4,5],[2,3,4,6],[2,3,4,6,28],[2,3,4,6,7],[2,3,4,6,7,9],[2,3,4,6,7,9,11],[2,3,4,6,7,9,11,51],[2,3,4,6,7,9,11,12],[2,3,4,6,7,9,11,12,63],[2,3,4,6,7,9,11,12,13],[2,3,4,6,7,9,11,12,13,75],[2,3,4,6,7,9,11,12,13,14],[2,3,4,6,7,9,11,12,13,16],[2,3,4,6,7,9,11,12,13,89],[4,5],[2,3,4,6,7,9,11,12,13],[2,3,4,6,7,9,11,12],[2,3,4,6,7,9,11],[2,3,4,6],[4,5]]=some f51:=by kernel_rfl
theorem c52:aK Tryz.prog Tryz.f52 [[2,3],[4]]=some f52:=by kernel_rfl
theorem c84:aK Tryz.prog Tryz.f84 [[1],[2]]=some f84:=by kernel_rfl
theorem c93:aK Tryz.prog Tryz.f93 [[0],[0,6],[2],[0,3],[0,3,10],[0,3,18],[2],[0,3],[2]]=some f93:=by kernel_rfl
theorem c94:aK Tryz.prog Tryz.f94 [[1],[6],[2],[2]]=some f94:=by kernel_rfl
theorem c95:aK Tryz.prog Tryz.f95 [[2,3],[2,5],[2,5,7],[2,5,7,8],[2,5,7,8,23],[2,5,7,8],[2,5,7,8],[7,9],[7,9,10],[7,9,10,38],[7,9,10,11],[7,9,10,11,12],[7,9,10,11,12,44],[7,9,10,11,12,60],[7,9,10,11,12],[7,9,10,11,12],[7,9,10,61],[7,9,10],[7,9,10],[4]]=some f95:=by kernel_rfl
theorem Qr:aK Tryz.prog Tryz.f137 [[1,2,4],[1,2,4,14],[4,5],[1,2,4,6],[1,4,6,7],[1,4,6,7,8],[1,4,6,7,8,21],[1,4,6,7,8],[1,4,6,7,8],[4,5]]=some f137:=by kernel_rfl
theorem Qc:aK Tryz.prog Tryz.f138 [[1,2],[2,4],[2,4,11],[2,3],[2,4,5],[2,4,5,6],[2,4,5,6,23],[2,4,5,6],[2,4,5,6],[2,4,5,6],[2,4,5,6],[2,4,5,6],[2,4,5,6],[2,4,5,6],[2,3]]=some f138:=by kernel_rfl
theorem Qu:aK Tryz.prog Tryz.f139 [[1,2,3,4,8],[1,2,3,8,10],[1,2,3,8,10,33],[8,9],[1,2,3,8,10,11],[1,2,3,8,10,11,12],[1,2,3,8,10,11,12,38],[1,2,3,8,10,11,12,13],[1,2,3,8,10,11,12,13,51],[8,9],[1,2,3,8,10,11,12],[1,2,3,8,10,11,12],[8,9]]=some f139:=by kernel_rfl
theorem PF:aK Tryz.prog Tryz.f140 [[2,3,4],[2,3,4,5],[2,3,4,5,7],[2,3,4,5],[2,3,4,5],[4]]=some f140:=by kernel_rfl
theorem Qs:aK Tryz.prog Tryz.f170 [[1],[1,3],[1,3,4],[1,3,4,9],[1,3,4,5],[1,3,4,5,13],[1,3,4,5,6],[1,3,4,5,6,17],[1,3,4,5,6,7],[1,3,4,5,6,7,26],[1,3,4,5,6],[1,3,4,5,6],[1,3,4,5],[1,3,4],[2]]=some f170:=by kernel_rfl
theorem P0:aK Tryz.prog Tryz.f171 [[2,3],[4]]=some f171:=by kernel_rfl
theorem Qx:aK Tryz.prog Tryz.f198 [[1,2],[2]]=some f198:=by kernel_rfl
theorem PK:aK Tryz.prog Tryz.f199 [[2,3],[2,3,19],[4,5],[2,3,6],[2,6,7],[2,6,7,8],[2,6,7,8,25],[2,6,7,8,9],[2,6,7,8,9,11],[2,6,7,8,9,11,41],[2,6,7,8,9,11,12],[2,6,7,8,9,11,12,49],[2,6,7,8,9,11,12,13],[2,6,7,8,9,11,12,13,57],[2,6,7,8,9,11,12,13,14],[2,6,7,8,9,11,12,13,14,16],[2,6,7,8,9,11,12,13,14,74],[2,6,7,8,9,11,12,13],[2,6,7,8,9,11,12,13],[2,6,7,8,9,11,12],[2,6,7,8,9,11],[2,6,7,8],[4,5]]=some f199:=by kernel_rfl
theorem Qv:aK Tryz.prog Tryz.f200 [[0,3],[0,3,5],[0,3,5,20],[0,3,5],[0,3,5,33],[4],[0,3,5,6],[0,5,6],[4]]=some f200:=by kernel_rfl
theorem QN:aK Tryz.prog Tryz.f221 [[2,3,4],[2,4],[4]]=some f221:=by kernel_rfl
theorem QC:aK Tryz.prog Tryz.f222 [[1,2,4],[1,2,4],[1,2,4,5],[1,2,4,5,13],[1,2,4,5],[1,2,4,5],[4]]=some f222:=by kernel_rfl
theorem PG:aK Tryz.prog Tryz.f223 [[0],[2]]=some f223:=by kernel_rfl
theorem P4:aK Tryz.prog Tryz.f224 [[1,2,3,4,8],[8]]=some f224:=by kernel_rfl
theorem Pm:aK Tryz.prog Tryz.f225 [[1],[2]]=some f225:=by kernel_rfl
theorem PD:aK Tryz.prog Tryz.f258 [[1],[1,3],[1,3,4],[1,3,4,8],[1,3,4,5],[1,3,4],[1,3,4],[2]]=some f258:=by kernel_rfl
theorem Qn:aK Tryz.prog Tryz.f259 [[2,3],[2,3,5],[2,3,5,7],[2,3,5,16],[4],[2,3,5,23],[4],[2,3,5],[4]]=some f259:=by kernel_rfl
theorem Qi:aK Tryz.prog Tryz.f267 [[1,2,4],[2,4,5],[2,4,5,6],[4],[2,4,5,16],[4],[2,4,5,27],[4],[2,4,5,37],[4],[2,4,47],[4],[4]]=some f267:=by kernel_rfl
theorem Pv:aK Tryz.prog Tryz.f316 [[1,2],[1,2,3,4],[1,2,3,13],[2],[2,5],[2]]=some f316:=by kernel_rfl
noncomputable def GP:Tr:=(.node (.node (.node (.node (.node (.node (.node .nil 3 f3 .nil) 20 f20 .nil) 21 (.jV pSd) (.node .nil 22 f22 .nil)) 23 f23 (.node (.node (.node .nil 24 f24 .nil) 31 f31 .nil) 34 f34 (.node .nil 35 f35 .nil))) 49 f49 (.node (.node (.node (.node .nil 51 f51 .nil) 52 f52 .nil) 72 f72 (.node .nil 84 f84 .nil)) 89 f89 (.node (.node .nil 90 f90 .nil) 91 f91 (.node .nil 92 f92 .nil)))) 93 f93 (.node (.node (.node (.node (.node .nil 94 f94 .nil) 95 f95 .nil) 120 f120 (.node .nil 121 f121 .nil)) 123 f123 (.node (.node (.node .nil 124 f124 .nil) 126 f126 .nil) 127 f127 (.node .nil 137 f137 .nil))) 138 f138 (.node (.node (.node (.node .nil 139 f139 .nil) 140 f140 .nil) 167 f167 (.node .nil 170 f170 .nil)) 171 f171 (.node (.node .nil 188 f188 .nil) 189 (.jV (nj 168 190)) (.node .nil 192 f192 .nil))))) 193 f193 (.node (.node (.node (.node (.node (.node .nil 194 f194 .nil) 195 f195 .nil) 196 f196 (.node .nil 197 f197 .nil)) 198 f198 (.node (.node (.node .nil 199 f199 .nil) 200 f200 .nil) 209 f209 (.node .nil 210 f210 .nil))) 211 f211 (.node (.node (.node (.node .nil 212 f212 .nil) 213 f213 .nil) 214 f214 (.node .nil 215 f215 .nil)) 221 f221 (.node (.node .nil 222 f222 .nil) 223 f223 (.node .nil 224 f224 .nil)))) 225 f225 (.node (.node (.node (.node (.node .nil 254 f254 .nil) 257 f257 .nil) 258 f258 (.node .nil 259 f259 .nil)) 261 f261 (.node (.node (.node .nil 262 f262 .nil) 263 f263 .nil) 264 f264 (.node .nil 265 f265 .nil))) 266 f266 (.node (.node (.node (.node .nil 267 f267 .nil) 316 f316 .nil) 317 f317 (.node .nil 318 f318 .nil)) 319 f319 (.node (.node .nil 320 f320 .nil) 321 f321 (.node .nil 322 f322 .nil))))))
noncomputable def T3:Nat→Option ah:=GP.get
theorem P8:GP.all (Entry Tryz.prog):=by
 unfold GP
 exact(Tr.aa (Tr.aa (Tr.aa (Tr.aa (Tr.aa (Tr.aa (Tr.aa Tr.all_nil (.of Tryz.func3 c3) Tr.all_nil) (.of Tryz.func20 c20) Tr.all_nil) QI (Tr.aa Tr.all_nil (.of Tryz.func22 c22) Tr.all_nil)) (.of Tryz.func23 c23) (Tr.aa (Tr.aa (Tr.aa Tr.all_nil (.of Tryz.func24 c24) Tr.all_nil) (.of Tryz.func31 c31) Tr.all_nil) (.of Tryz.func34 c34) (Tr.aa Tr.all_nil (.of Tryz.func35 c35) Tr.all_nil))) (.of Tryz.func49 c49) (Tr.aa (Tr.aa (Tr.aa (Tr.aa Tr.all_nil (.of Tryz.func51 c51) Tr.all_nil) (.of Tryz.func52 c52) Tr.all_nil) (.of Tryz.func72 c72) (Tr.aa Tr.all_nil (.of Tryz.func84 c84) Tr.all_nil)) (.of Tryz.func89 c89) (Tr.aa (Tr.aa Tr.all_nil (.of Tryz.func90 c90) Tr.all_nil) (.of Tryz.func91 c91) (Tr.aa Tr.all_nil (.of Tryz.func92 c92) Tr.all_nil)))) (.of Tryz.func93 c93) (Tr.aa (Tr.aa (Tr.aa (Tr.aa (Tr.aa Tr.all_nil (.of Tryz.func94 c94) Tr.all_nil) (.of Tryz.func95 c95) Tr.all_nil) (.of Tryz.func120 Nb) (Tr.aa Tr.all_nil (.of Tryz.func121 NP) Tr.all_nil)) (.of Tryz.func123 M9) (Tr.aa (Tr.aa (Tr.aa Tr.all_nil (.of Tryz.func124 Nq) Tr.all_nil) (.of Tryz.func126 OB) Tr.all_nil) (.of Tryz.func127 Oh) (Tr.aa Tr.all_nil (.of Tryz.func137 Qr) Tr.all_nil))) (.of Tryz.func138 Qc) (Tr.aa (Tr.aa (Tr.aa (Tr.aa Tr.all_nil (.of Tryz.func139 Qu) Tr.all_nil) (.of Tryz.func140 PF) Tr.all_nil) (.of Tryz.func167 NX) (Tr.aa Tr.all_nil (.of Tryz.func170 Qs) Tr.all_nil)) (.of Tryz.func171 P0) (Tr.aa (Tr.aa Tr.all_nil (.of Tryz.func188 NO) Tr.all_nil) Oy (Tr.aa Tr.all_nil (.of Tryz.func192 NN) Tr.all_nil))))) (.of Tryz.func193 Ol) (Tr.aa (Tr.aa (Tr.aa (Tr.aa (Tr.aa (Tr.aa Tr.all_nil (.of Tryz.func194 NB) Tr.all_nil) (.of Tryz.func195 Ot) Tr.all_nil) (.of Tryz.func196 ON) (Tr.aa Tr.all_nil (.of Tryz.func197 NM) Tr.all_nil)) (.of Tryz.func198 Qx) (Tr.aa (Tr.aa (Tr.aa Tr.all_nil (.of Tryz.func199 PK) Tr.all_nil) (.of Tryz.func200 Qv) Tr.all_nil) (.of Tryz.func209 Oi) (Tr.aa Tr.all_nil (.of Tryz.func210 NU) Tr.all_nil))) (.of Tryz.func211 NT) (Tr.aa (Tr.aa (Tr.aa (Tr.aa Tr.all_nil (.of Tryz.func212 Of) Tr.all_nil) (.of Tryz.func213 N9) Tr.all_nil) (.of Tryz.func214 Nd) (Tr.aa Tr.all_nil (.of Tryz.func215 Ng) Tr.all_nil)) (.of Tryz.func221 QN) (Tr.aa (Tr.aa Tr.all_nil (.of Tryz.func222 QC) Tr.all_nil) (.of Tryz.func223 PG) (Tr.aa Tr.all_nil (.of Tryz.func224 P4) Tr.all_nil)))) (.of Tryz.func225 Pm) (Tr.aa (Tr.aa (Tr.aa (Tr.aa (Tr.aa Tr.all_nil (.of Tryz.func254 Oq) Tr.all_nil) (.of Tryz.func257 OW) Tr.all_nil) (.of Tryz.func258 PD) (Tr.aa Tr.all_nil (.of Tryz.func259 Qn) Tr.all_nil)) (.of Tryz.func261 Nk) (Tr.aa (Tr.aa (Tr.aa Tr.all_nil (.of Tryz.func262 NW) Tr.all_nil) (.of Tryz.func263 No) Tr.all_nil) (.of Tryz.func264 N2) (Tr.aa Tr.all_nil (.of Tryz.func265 Ns) Tr.all_nil))) (.of Tryz.func266 Na) (Tr.aa (Tr.aa (Tr.aa (Tr.aa Tr.all_nil (.of Tryz.func267 Qi) Tr.all_nil) (.of Tryz.func316 Pv) Tr.all_nil) (.of Tryz.func317 Ow) (Tr.aa Tr.all_nil (.of Tryz.func318 Oa) Tr.all_nil)) (.of Tryz.func319 Nn) (Tr.aa (Tr.aa Tr.all_nil (.of Tryz.func320 Oo) Tr.all_nil) (.of Tryz.func321 Nr) (Tr.aa Tr.all_nil (.of Tryz.func322 Ou) Tr.all_nil))))))
theorem lG:dW Tryz.prog T3:=oB (by kernel_rfl) P8
theorem O9:KJ T3:={ne:={nd:={pl:={fi:={ft:={mp:={cp:={p:=lG.bg,f123:=by kernel_rfl,f213:=by kernel_rfl,f214:=by kernel_rfl,f264:=by kernel_rfl,f265:=by kernel_rfl,f266:=by kernel_rfl},tu:={p:=lG.bg,f263:=by kernel_rfl,f317:=by kernel_rfl,f318:=by kernel_rfl,f319:=by kernel_rfl,f320:=by kernel_rfl,f321:=by kernel_rfl,f322:=by kernel_rfl},f126:=by kernel_rfl,f127:=by kernel_rfl,f211:=by kernel_rfl,f215:=by kernel_rfl,f261:=by kernel_rfl,f262:=by kernel_rfl},bd:={cp:={p:=lG.bg,f123:=by kernel_rfl,f213:=by kernel_rfl,f214:=by kernel_rfl,f264:=by kernel_rfl,f265:=by kernel_rfl,f266:=by kernel_rfl},f210:=by kernel_rfl},li:={p:=lG.bg,f212:=by kernel_rfl},co:={p:=lG.bg,f188:=by kernel_rfl,f254:=by kernel_rfl},f35:=by kernel_rfl,f121:=by kernel_rfl,f209:=by kernel_rfl},f34:=by kernel_rfl,f120:=by kernel_rfl},f72:=by kernel_rfl,f167:=by kernel_rfl,f189:=by kernel_rfl,f192:=by kernel_rfl},f35:=by kernel_rfl,f92:=by kernel_rfl,f121:=by kernel_rfl,f124:=by kernel_rfl,f193:=by kernel_rfl,f194:=by kernel_rfl,f195:=by kernel_rfl,f196:=by kernel_rfl,f197:=by kernel_rfl,f257:=by kernel_rfl},f22:=by kernel_rfl,f89:=by kernel_rfl,f90:=by kernel_rfl,f91:=by kernel_rfl},n3:={rn:={rp:={im:={rf:={tr:={cr:={hr:={p:=lG.bg,f171:=by kernel_rfl,f225:=by kernel_rfl},f170:=by kernel_rfl},f137:=by kernel_rfl,f139:=by kernel_rfl,f221:=by kernel_rfl,f222:=by kernel_rfl,f223:=by kernel_rfl,f224:=by kernel_rfl,f267:=by kernel_rfl},f51:=by kernel_rfl,f52:=by kernel_rfl,f84:=by kernel_rfl,f138:=by kernel_rfl,f140:=by kernel_rfl,f225:=by kernel_rfl},pt:={p:=lG.bg,f200:=by kernel_rfl,f259:=by kernel_rfl},f258:=by kernel_rfl,f316:=by kernel_rfl},f199:=by kernel_rfl},f95:=by kernel_rfl},rs:={rf:={tr:={cr:={hr:={p:=lG.bg,f171:=by kernel_rfl,f225:=by kernel_rfl},f170:=by kernel_rfl},f137:=by kernel_rfl,f139:=by kernel_rfl,f221:=by kernel_rfl,f222:=by kernel_rfl,f223:=by kernel_rfl,f224:=by kernel_rfl,f267:=by kernel_rfl},f51:=by kernel_rfl,f52:=by kernel_rfl,f84:=by kernel_rfl,f138:=by kernel_rfl,f140:=by kernel_rfl,f225:=by kernel_rfl},f31:=by kernel_rfl,f49:=by kernel_rfl,f93:=by kernel_rfl},f23:=by kernel_rfl,f94:=by kernel_rfl,f198:=by kernel_rfl},lt:={cr:={hr:={p:=lG.bg,f171:=by kernel_rfl,f225:=by kernel_rfl},f170:=by kernel_rfl},f20:=by kernel_rfl,f84:=by kernel_rfl},f3:=by kernel_rfl,f21:=by kernel_rfl,f24:=by kernel_rfl}
theorem Lw{W:World}{G:Gl}(hG:wz W G):∃(h:Heap) (μ:Mu),R Tryz.prog μ h W∧(∀b o,h.get b=some o→o.ro=true∨o.live=false)∧Rdy h∧1000≤h.next∧(∀g vs,(g,vs)∈G→h.get g=some (.cells vs false 1)):=
 ⟨obH G [],obM G [],R.obs hG (fun o ho=>by cases ho),Ll hG,JS hG _,Nat.le_add_right _ _,fun g vs h=>Mh hG _ h⟩
open Go.RowKit in
theorem zb{W:World}(V:vE W){w:List Nat×List Nat}(hw:IsW w){o:List Nat}(ho:IsS o):Calls Tryz.prog 3 #[wV w,sv o] W fun e W'=>e= .returned (.bool true)∧Below W.heap.size W W':=by
 obtain⟨h,μ,hRR,hro,hrd,hnx,hgl⟩:=Lw V.gl
 obtain⟨r',h',⟨m,hm⟩,rfl,rfl⟩:=Qb O9 hrd (hgl 2 _ List.mem_cons_self) (by omega) hw ho
 have hrun:=hm m (Nat.le_refl _)
 have ha:LR μ [wV w,sv o] [wV w,sv o]:= .cons (VR.cw (EE w)).1 (.cons (VR.cw (gX o)).1 .nil)
 refine(kW lG hrun hrd.log (by kernel_rfl) hRR ha).mono fun e W' hq=> ?_
 obtain⟨μ',q1,q2,q3⟩:=hq
 cases e with
 |returned v'=>
  have hv:VR μ' (.bool true) v':=q1
  cases hv
  exact⟨rfl,St.below q3 hro⟩
 |panicked _=>exact q1.elim
 |outgrown=>exact q1.elim
end Go.A.Pk
end
