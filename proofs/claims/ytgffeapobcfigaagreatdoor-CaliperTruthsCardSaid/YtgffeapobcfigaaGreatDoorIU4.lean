/- Walks of functions, plain laws, the table. -/
import Derived.Test.YtgffeapobcfigaaGreatDoorIU3
import Derived.Test.YtgffeapobcfigaaGreatDoorIU0
import Derived.Test.YtgffeapobcfigaaGreatDoorIH
import Derived.Test.YtgffeapobcfigaaGreatDoorIT
import Derived.KernelRfl
import Derived.Test.YtgffeapobcfigaaGreatDoorID
set_option linter.all false
section
set_option maxRecDepth 100000
namespace Go.A.Pk
variable {T:Nat→Option ak}
theorem CO{a b c:List Nat}(ha:IsS a)(hb:IsS b)(hc:IsS c)(h1:sIn a b=true)(h2:sIn b c=true):sIn a c=true:=
 (ig ha hc).2 fun x hx=>(ig hb hc).1 h2 x ((ig ha hb).1 h1 x hx)
theorem filter_lt{α:Type}{p q:α→Bool}(h:∀x,p x=true→q x=true):∀{l:List α} {x:α},x∈l→q x=true→p x=false→(l.filter p).length<(l.filter q).length
 |[],_,hx,_,_=>by cases hx
 |a::l,x,hx,hq,hp=>by
  rw[List.filter_cons,List.filter_cons]
  rcases List.mem_cons.1 hx with rfl|hx
  ·rw[if_neg (by rw[hp];simp),if_pos hq,List.length_cons]
   exact Nat.lt_succ_of_le (filter_le h l)
  ·have ih:=filter_lt h hx hq hp
   by_cases ha:p a=true
   ·rw[if_pos ha,if_pos (h a ha),List.length_cons,List.length_cons];omega
   ·rw[if_neg ha]
    split
    ·rw[List.length_cons];omega
    ·exact ih
theorem KQ{a b:List Nat}(ha:IsS a)(hb:IsS b)(h:sIn a b=true)(hne:a≠b):dL a<dL b:=by
 have hs:=(ig ha hb).1 h
 have hex:∃c,dP b c=true∧dP a c=false:=by
  rcases Classical.em (∃c,dP b c=true∧dP a c=false)with q|q
  ·exact q
  ·exfalso
   apply hne
   refine pY ha hb fun z i hz hi=> ?_
   cases h1:dP a (fC z i)with
   |true=>rw[hs _ h1]
   |false=>
    cases h2:dP b (fC z i)with
    |false=>rfl
    |true=>exact absurd ⟨_,h2,h1⟩ q
 obtain⟨c,h1,h2⟩:=hex
 unfold dL bn
 exact filter_lt hs (List.mem_filter.1 (dW.2 h1)).1 h1 h2
theorem yz{r:List (List Nat)}(hr:∀s∈r,IsS s){t:List Nat}(ht:IsS t):∀(n:Nat) {q:List Nat},dL q≤n→q∈r→sIn q t=true→∃y∈r,rF r y=false∧sIn y t=true
 |n,q,hn,hq,hin=>by
  cases hm:rF r q with
  |false=>exact⟨q,hq,hm,hin⟩
  |true=>
   unfold rF at hm
   obtain⟨y,hy,h2⟩:=List.any_eq_true.1 hm
   rw[Bool.and_eq_true,Bool.not_eq_true',decide_eq_false_iff_not]at h2
   have hlt:=KQ (hr y hy) (hr q hq) h2.2 h2.1
   cases n with
   |zero=>omega
   |succ n=>exact yz hr ht n (by omega) hy (CO (hr y hy) (hr q hq) ht h2.2 hin)
def CJ(w:List Nat×List Nat)(s:List Nat):List Nat:=qZ w.1 (jO s w.2)
theorem I6{w:List Nat×List Nat}(hw:IsW w){s:List Nat}(hs:IsS s):IsS (CJ w s):=hw.a.join (hs.meet hw.b)
theorem EZ{w:List Nat×List Nat}(hw:IsW w){s:List Nat}(hs:IsS s)(hin:sIn w.1 w.2=true):Sub w.1 (CJ w s)∧Sub (CJ w s) w.2:=by
 have h1:=(ig hw.a hw.b).1 hin
 unfold CJ
 refine⟨fun c hc=> ?_,fun c hc=> ?_⟩
 ·rw[vm hw.a (hs.meet hw.b),hc];rfl
 ·rw[vm hw.a (hs.meet hw.b),qR hs hw.b,Bool.or_eq_true,Bool.and_eq_true]at hc
  exact hc.elim (h1 c) fun q=>q.2
theorem FF{w:List Nat×List Nat}(hw:IsW w){o s:List Nat}(h:s∈kF w o):IsS s:=tW hw (List.mem_filter.1 h).1
theorem CP(w:List Nat×List Nat)(o:List Nat):(kF w o).length≤98304:=Nat.le_trans (List.length_filter_le ..) (vl w o)
theorem Ih{w:List Nat×List Nat}(hw:IsW w){o t:List Nat}(ho:IsS o)(h0:¬o=s0)(ht:IsS t)(h1:Sub w.1 t)(h2:Sub t w.2):(kF w o).any (fun n=>sIn n t)=ic t o:=by
 cases hf:ic t o with
 |true=>
  obtain⟨p,tt,htt,x,y,z,r,rfl,hin⟩:=(Bq ht ho h0).1 hf
  have hps:=tU r
  have hpt:=(ig hps ht).1 hin
  have hpl:mL (shC x y z) (dR o tt)∈oy w.2 o:=(Bd hw.b ho h0).2 ⟨tt,htt,x,y,z,r,rfl,(ig hps hw.b).2 fun c hc=>h2 c (hpt c hc)⟩
  generalize mL (shC x y z) (dR o tt)=p at*
  have hq:eX p w.1∈mK w o:=uM.2 ⟨p,hpl,rfl⟩
  have hqt:sIn (eX p w.1) t=true:=(ig (hps.less hw.a) ht).2 fun c hc=>by
   rw[vo hps hw.a,Bool.and_eq_true]at hc
   exact hpt c hc.1
  obtain⟨y,hy,hm,hyt⟩:=yz (fun s hs=>tW hw hs) ht (dL (eX p w.1)) (Nat.le_refl _) hq hqt
  exact List.any_eq_true.2 ⟨y,List.mem_filter.2 ⟨hy,by rw[hm];rfl⟩,hyt⟩
 |false=>
  rw[List.any_eq_false]
  intro n hn hnt
  have hnA:=(List.mem_filter.1 hn).1
  obtain⟨p,hp,rfl⟩:=uM.1 hnA
  have hps:=rN hp
  obtain⟨tt,htt,x,y,z,r,e,hin⟩:=(Bd hw.b ho h0).1 hp
  have hpt:sIn p t=true:=(ig hps ht).2 fun c hc=>by
   cases hs:dP w.1 c with
   |true=>exact h1 c hs
   |false=>
    refine(ig (hps.less hw.a) ht).1 hnt c ?_
    rw[vo hps hw.a,hc,hs];rfl
  have:=(Bq ht ho h0).2 ⟨p,tt,htt,x,y,z,r,e,hpt⟩
  rw[hf]at this;cases this
theorem Am{w:List Nat×List Nat}(hw:IsW w){o x y:List Nat}{i k:Nat}(hx:(kF w o)[i]? =some x)(hy:(kF w o)[k]? =some y)(hki:k<i):sIn x y=false∧sIn y x=false:=by
 have hnd:(kF w o).Pairwise SLt:=(Eo hw o).filter _
 have hne:y≠x:=by
  intro e
  obtain⟨hi,rfl⟩:=List.getElem?_eq_some_iff.1 hx
  obtain⟨hk,rfl⟩:=List.getElem?_eq_some_iff.1 hy
  have:=List.pairwise_iff_getElem.1 hnd k i hk hi hki
  rw[e]at this
  exact zR _ this
 have key:∀a b,a∈kF w o→b∈kF w o→b≠a→sIn b a=false:=fun a b ha hb hn=>by
  obtain⟨ha1,ha2⟩:=List.mem_filter.1 ha
  rw[Bool.not_eq_true']at ha2
  unfold rF at ha2
  have:=List.any_eq_false.1 ha2 b (List.mem_filter.1 hb).1
  cases q:sIn b a with
  |false=>rfl
  |true=>exact absurd (by rw[decide_eq_false hn,q];rfl) this
 exact⟨key y x (List.mem_of_getElem? hy) (List.mem_of_getElem? hx) (Ne.symm hne),key x y (List.mem_of_getElem? hx) (List.mem_of_getElem? hy) hne⟩
structure Jt (T:Nat→Option ak):Prop where
 ne:Bk T
 sv:GD T
 rs:Jx T
 lt:Jk T
 f5:T 5=some f5
 f21:T 21=some (.jI pSd)
 f32:T 32=some f32
 f118:T 118=some f118
 f119:T 119=some f119
set_option maxHeartbeats 32000000 in
theorem NT(F:Jt T){h:Heap}(hr:Rdy h)(hg:Tab h)(h2:2<h.next){w:List Nat×List Nat}(hw:IsW w){o s:List Nat}(ho:IsS o)(hs:IsS s):Pu T 5 [wV w,sv o,sv s] h (.bool true):=by
 have hp:=F.sv.fi.ft.li.p
 refine .of hp F.f5 hr rfl ?_
 have hwc:cellsOf (wV w)=wL w:=by show(wL w).toArray.toList=_;simp
 have g0:(((h.push (.cells (cellsOf (wV w)) true 1)).push (.cells (cellsOf (sv o)) true 1)).push (.cells (cellsOf (sv s)) true 1)).get h.next=some (.cells (wL w) true 1):=by
  rw[hwc,z4 (by show h.next<h.next+2;omega),z4 (Nat.lt_succ_self _)];exact z3 h _
 have g1:(((h.push (.cells (cellsOf (wV w)) true 1)).push (.cells (cellsOf (sv o)) true 1)).push (.cells (cellsOf (sv s)) true 1)).get (h.next+1)=some (.cells (us o) true 1):=by(simp(disch:=first|omega|(simp only[z1,z2];omega)|(simp only[z1,z2];done)|fail)only[z8,z4,z5,z9,z7,z1,z2,g0];exact rfl)
 have g2:(((h.push (.cells (cellsOf (wV w)) true 1)).push (.cells (cellsOf (sv o)) true 1)).push (.cells (cellsOf (sv s)) true 1)).get (h.next+2)=some (.cells (us s) true 1):=by(simp(disch:=first|omega|(simp only[z1,z2];omega)|(simp only[z1,z2];done)|fail)only[z8,z4,z5,z9,z7,z1,z2,g0,g1];exact rfl)
 have n0:(((h.push (.cells (cellsOf (wV w)) true 1)).push (.cells (cellsOf (sv o)) true 1)).push (.cells (cellsOf (sv s)) true 1)).next=h.next+3:=rfl
 have x0:Ext h (((h.push (.cells (cellsOf (wV w)) true 1)).push (.cells (cellsOf (sv o)) true 1)).push (.cells (cellsOf (sv s)) true 1)):=(((Ext.refl h).push _).push _).push _
 refine y4 ?_;refine yB ?_;refine yB ?_;refine yB ?_;refine yM ?_;refine y3 ?_
 generalize(((h.push (.cells (cellsOf (wV w)) true 1)).push (.cells (cellsOf (sv o)) true 1)).push (.cells (cellsOf (sv s)) true 1))=H at*
 have W:=x0.wf hr.wf
 have hL:=x0.log.trans hr.log
 have wk:=vP hw
 have wkl:=rX hw
 have wa:=zi hw
 have wb:=wY hw
 have wka:=aV hw.a.len
 have wkb:=aV hw.b.len
 have k8:=aV ho.len
 have k9:=bE ho.len
 have ks8:=aV hs.len
 have ks9:=bE hs.len
 have hgH:Tab H:=hg.ext x0 h2
 have hs1:ssL [o]=us o:=by simp[ssL]
 have s2:SsQ {H.push (.cells (us o) true 8)with log:=[]} (.slice (some ⟨H.next,0,none⟩) 1 1) [o]:=by
  refine⟨.mem ⟨Nat.lt_succ_self _,⟨_,_,_,z3 _ _,?_⟩,?_⟩ (Nat.le_refl _),fun s hs=>by rw[List.mem_singleton.1 hs];exact ho⟩
  ·rw[hs1];exact k9
  ·rw[hs1,aJ,ho.len]
 have C1:=I1 F.lt (h:={H.push (.cells (us o) true 8)with log:=[]}) (.of (W.push _)) hw s2 (by decide)
 have x1:Ext H (H.push (.cells (us o) true 8)):=(Ext.refl H).push _
 have n1:(H.push (.cells (us o) true 8)).next=H.next+1:=rfl
 have C2:=Kk F.rs (h:={H.push (.cells (us o) true 8)with log:=[]}) (.of (W.push _)) hw
 have C0:Pu T 21 [] {H.push (.cells (us o) true 8)with log:=[]} (.bool true):=Kh F.f21 (show Tab (H.push (.cells (us o) true 8))from hgH.ext x1 (by omega))
 refine aq ?_;refine y4 ?_;refine aa (au (by exact rfl) (by assumption) (by assumption) (by assumption)) ?_;refine aa (au (by exact rfl) (by assumption) (by assumption) (by assumption)) ?_
 refine aa (nv (AY ho (by exact rfl)) (show bR (aU 8 (Value.int IntKind.u64 0))=8 from rfl)) ?_
 generalize(H.push (.cells (us o) true 8))=H1 at*
 have hL1:=x1.log.trans hL
 have g01:=(x1.old _ (by omega)).trans g0
 have g11:=(x1.old _ (by omega)).trans g1
 have g21:=(x1.old _ (by omega)).trans g2
 have ey1:=x0.trans x1
 have W1:=ey1.wf hr.wf
 cases hlb:zH w [o]with
 |false=>
  rw[hlb]at C1
  skip
  refine yC ?_
  refine FW.pu C1 ?_
  refine yA ?_;refine yM ?_;refine yP ?_;refine yP ?_;refine yP ?_;refine yT ?_;refine y3 ?_;refine yY ?_;refine y4 ?_
  refine yC ?_
  refine FW.pu C0 ?_
  refine yM ?_;refine y3 ?_;refine aP ?_;refine eO ?_
  exact aH hL1 rfl rfl
 |true=>
 rw[hlb]at C1
 cases hin:sIn w.1 w.2 with
 |false=>
  rw[hin,if_neg (by simp)]at C2
  have m1:aC .neq (.int .i64 1) (.int .i64 0)=some (.bool true):=rfl
  skip
  refine yC ?_
  refine FW.pu C1 ?_
  refine yA ?_;refine yM ?_;refine yO ?_;refine aa (au (by exact rfl) (by assumption) (by assumption) (by assumption)) ?_;refine yO ?_
  refine yC ?_
  refine FW.pu C2 ?_
  refine yO ?_;refine aa (aF (by exact rfl) (by exact rfl) (by with_reducible assumption)) ?_;refine yU ?_;refine y3 ?_;refine yY ?_;refine y4 ?_
  refine yC ?_
  refine FW.pu C0 ?_
  refine yM ?_;refine y3 ?_;refine aP ?_;refine eO ?_
  exact aH hL1 rfl rfl
 |true=>
 rw[hin,if_pos rfl]at C2
 have m0:aC .neq (.int .i64 0) (.int .i64 0)=some (.bool false):=rfl
 have ht:=I6 hw hs
 obtain⟨hsub1,hsub2⟩:=EZ hw hs hin
 have C3:=BR hp F.f32 F.f118 F.f119 (h:={H1 with log:=[]}) (.of W1) hw hs
 rw[show qZ w.1 (jO s w.2)=CJ w s from rfl]at C3
 generalize CJ w s=t at*
 have kt8:=aV ht.len
 have kt9:=bE ht.len
 have ktl:=ht.len
 have x2:=iu (h:=H1) (base:=h.next) (by omega) (.cells (aU 8 (.int .u64 0)) true 1) (.cells (us t) true 1)
 have g7:=jh (h:=H1) (base:=h.next) (aU 8 (.int .u64 0)) (us t)
 have n2:((H1.push (.cells (aU 8 (.int .u64 0)) true 1)).wr h.next H1.next (.cells (us t) true 1)).next=H1.next+1:=rfl
 clear g0 g1 g2
 skip
 refine yC ?_
 refine FW.pu C1 ?_
 clear C1
 refine yA ?_;refine yM ?_;refine yO ?_;refine aa (au (by exact rfl) (by assumption) (by assumption) (by assumption)) ?_;refine yO ?_
 refine yC ?_
 refine FW.pu C2 ?_
 clear C2 C0
 refine yO ?_;refine aa (aF (by exact rfl) (by exact rfl) (by with_reducible assumption)) ?_;refine yU ?_;refine y3 ?_;refine yX ?_;refine aM ?_;refine br ?_;refine y4 ?_;refine aa (au (by exact rfl) (by assumption) (by assumption) (by assumption)) ?_;refine aa (au (by exact rfl) (by assumption) (by assumption) (by assumption)) ?_
 refine yC ?_
 refine FW.pu C3 ?_
 clear C3
 refine aa (di) ?_
 refine aa (dx (by exact rfl) (by exact rfl) (by(simp(disch:=first|omega|(simp only[z1,z2];omega))only[z3,z4,z5,z6,z7,z1,z2,g01,g11,g21,g7];exact rfl)) (by(simp only[aJ];assumption)) (by exact rfl) (by exact dH _)) ?_;refine y3 ?_
 generalize((H1.push (.cells (aU 8 (.int .u64 0)) true 1)).wr h.next H1.next (.cells (us t) true 1))=H2 at*
 have ey2:=ey1.trans x2
 have W2:=ey2.wf hr.wf
 have hL2:=ey2.log.trans hr.log
 have g02:=(x2.old _ (by omega)).trans g01
 have g12:=(x2.old _ (by omega)).trans g11
 have hg2:Tab H2:=hg.ext ey2 h2
 have C4:=Di F.sv (h:={H2 with log:=[]}) (.of W2) (show Tab H2 from hg2) (by show 2<H2.next;omega) hw ho
 have C0:Pu T 21 [] {H2 with log:=[]} (.bool true):=Kh F.f21 (show Tab H2 from hg2)
 have hc:=Fj w o
 have hmono1:ic w.1 o=true→ic t o=true:=uU hw.a ht hsub1
 have hmono2:ic t o=true→ic w.2 o=true:=uU ht hw.b hsub2
 have hcs:svR w o=(0,1)∨∃b:Nat,(b=1∨b=2∨b=3)∧o≠s0∧svR w o=(b,0)∧(b=1→ic t o=true)∧(b=2→ic t o=false):=by
  rcases hc with q|⟨_,q1,q2,q3⟩|⟨_,q1,q2,q3,q4⟩|⟨_,q1,q2,q3,q4⟩
  ·exact .inl q
  ·exact .inr ⟨1, .inl rfl,q1,q2,fun _=>hmono1 q3,fun q=>by cases q⟩
  ·exact .inr ⟨3, .inr (.inr rfl),q1,q2,(fun q=>by cases q),(fun q=>by cases q)⟩
  ·refine .inr ⟨2, .inr (.inl rfl),q1,q2,(fun q=>by cases q),fun _=> ?_⟩
   cases hf:ic t o with
   |false=>rfl
   |true=>rw[hmono2 hf]at q4;cases q4
 clear hc hmono1 hmono2
 unfold svV at C4
 clear g01 g11 g21
 rcases hcs with hsv|⟨b,hb,hoz,hsv,hb1,hb2⟩
 ·rw[hsv]at C4
  dsimp only at C4
  have m1:aC .neq (.int .i64 1) (.int .i64 0)=some (.bool true):=rfl
  refine y4 ?_;refine aa (au (by exact rfl) (by assumption) (by assumption) (by assumption)) ?_;refine aa (au (by exact rfl) (by assumption) (by assumption) (by assumption)) ?_
  refine yC ?_
  refine FW.pu C4 ?_
  refine yM ?_;refine yE ?_;refine yE ?_;refine yM ?_;refine yM ?_;refine y3 ?_;refine aq ?_
  refine y4 ?_;refine yM ?_;refine aa (aF (by exact rfl) (by exact rfl) (by with_reducible assumption)) ?_;refine y3 ?_;refine yY ?_;refine y4 ?_
  refine yC ?_
  refine FW.pu C0 ?_
  refine yM ?_;refine y3 ?_;refine aP ?_;refine eO ?_
  exact aH hL2 rfl rfl
 rw[hsv]at C4
 dsimp only at C4
 have C5:=AE F.sv.fi (h:={H2 with log:=[]}) (.of W2) (show Tab H2 from hg2) (by show 2<H2.next;omega) ht ho
 refine y4 ?_;refine aa (au (by exact rfl) (by assumption) (by assumption) (by assumption)) ?_;refine aa (au (by exact rfl) (by assumption) (by assumption) (by assumption)) ?_
 refine yC ?_
 refine FW.pu C4 ?_
 clear C4 C0
 refine yM ?_;refine yE ?_;refine yE ?_;refine yM ?_;refine yM ?_;refine y3 ?_;refine aq ?_
 refine y4 ?_;refine yM ?_;refine aa (aF (by exact rfl) (by exact rfl) (by with_reducible assumption)) ?_;refine y3 ?_;refine yX ?_;refine aM ?_;refine br ?_;refine y4 ?_;refine aa (au (by exact rfl) (by assumption) (by assumption) (by assumption)) ?_;refine aa (au (by exact rfl) (by assumption) (by assumption) (by assumption)) ?_
 refine yC ?_
 refine FW.al C5 (fun v h' m q=>q) ?_
 rintro _ H3 x3 ⟨tt,x,y,z,rfl⟩
 clear C5
 have n3:=x3.next
 have x4:=iu (h:=H3) (base:=h.next) (by omega) (.cells [I.O,I.O,I.O,I.O] true 1) (.cells (cD [I.O,I.O,I.O,I.O] 0 (cellsOf (moV tt x y z))) true 1)
 have n4:((H3.push (.cells [I.O,I.O,I.O,I.O] true 1)).wr h.next H3.next (.cells (cD [I.O,I.O,I.O,I.O] 0 (cellsOf (moV tt x y z))) true 1)).next=H3.next+1:=rfl
 refine yM ?_;refine yE ?_;refine yE ?_;refine aa (di) ?_
 refine yS ?_;refine yM ?_;refine y3 ?_
 generalize((H3.push (.cells [I.O,I.O,I.O,I.O] true 1)).wr h.next H3.next (.cells (cD [I.O,I.O,I.O,I.O] 0 (cellsOf (moV tt x y z))) true 1))=H4 at*
 have x34:=x3.trans x4
 have ey4:=ey2.trans x34
 have W4:=ey4.wf hr.wf
 have hL4:=ey4.log.trans hr.log
 have g04:=(x34.old _ (by omega)).trans g02
 have g14:=(x34.old _ (by omega)).trans g12
 have g74:=(x34.old _ (by omega)).trans g7
 have hg4:Tab H4:=hg.ext ey4 h2
 clear g02 g12 g7 x3 x4
 refine ff (E0:=[(3, .pointer (some ⟨h.next,0,none⟩)),(4, .pointer (some ⟨h.next+1,0,none⟩)),(7, .pointer (some ⟨H1.next,0,none⟩)),(11, .bool (ic t o)),(58, .bool false)]) (P:=fun h'=>H4=h') ?_ ?_
 ·have e11:aC .eql (.int .u8 ((1:Nat):Int)) (.int .u8 1)=some (.bool true):=rfl
  have e12:aC .eql (.int .u8 ((1:Nat):Int)) (.int .u8 2)=some (.bool false):=rfl
  have e21:aC .eql (.int .u8 ((2:Nat):Int)) (.int .u8 1)=some (.bool false):=rfl
  have e22:aC .eql (.int .u8 ((2:Nat):Int)) (.int .u8 2)=some (.bool true):=rfl
  have e31:aC .eql (.int .u8 ((3:Nat):Int)) (.int .u8 1)=some (.bool false):=rfl
  have e32:aC .eql (.int .u8 ((3:Nat):Int)) (.int .u8 2)=some (.bool false):=rfl
  rcases hb with rfl|rfl|rfl
  ·rw[hb1 rfl]
   refine y4 ?_;refine yM ?_;refine aa (aF (by exact rfl) (by exact rfl) (by with_reducible assumption)) ?_;refine yM ?_;refine yO ?_;refine yM ?_;refine yO ?_;refine yA ?_
   refine yT ?_;refine yM ?_;refine yO ?_;refine yM ?_;refine yO ?_;refine aa (aF (by exact rfl) (by exact rfl) (by with_reducible assumption)) ?_;refine yO ?_;refine yM ?_
   refine yP ?_;refine yO ?_;refine yU ?_;refine yU ?_;refine y3 ?_;refine yX ?_;refine aM ?_
   exact⟨rfl,rfl,rfl,rfl⟩
  ·rw[hb2 rfl]
   refine y4 ?_;refine yM ?_;refine aa (aF (by exact rfl) (by exact rfl) (by with_reducible assumption)) ?_;refine yM ?_;refine yP ?_;refine yP ?_;refine yU ?_;refine yM ?_
   refine yO ?_;refine yM ?_;refine yO ?_;refine aa (aF (by exact rfl) (by exact rfl) (by with_reducible assumption)) ?_;refine yO ?_;refine yM ?_;refine yO ?_;refine yM ?_;refine yO ?_
   refine yT ?_;refine yU ?_;refine y3 ?_;refine yX ?_;refine aM ?_
   exact⟨rfl,rfl,rfl,rfl⟩
  ·refine y4 ?_;refine yM ?_;refine aa (aF (by exact rfl) (by exact rfl) (by with_reducible assumption)) ?_;refine yM ?_;refine yP ?_;refine yP ?_;refine yU ?_;refine yM ?_
   refine yO ?_;refine yM ?_;refine yO ?_;refine aa (aF (by exact rfl) (by exact rfl) (by with_reducible assumption)) ?_;refine yO ?_;refine yM ?_;refine yP ?_;refine yO ?_;refine yU ?_
   refine yU ?_;refine y3 ?_;refine yX ?_;refine aM ?_
   exact⟨rfl,rfl,rfl,rfl⟩
 rintro _ rfl
 clear hb1 hb2 hb hsv
 have C6:=IQ F.ne (h:={H4 with log:=[]}) (.of W4) (show Tab H4 from hg4) (by show 2<H4.next;omega) hw ho
 have hni:=Ih hw ho hoz ht hsub1 hsub2
 have hap:=fun i k x y=> @Am w hw o x y i k
 have hnl:=CP w o
 have hnok:∀s∈kF w o,IsS s:=fun s hs=>FF hw hs
 have hnr:tV w o=if sw w=true then([],82)else(kF w o,0):=by
  unfold tV
  rw[if_neg (fun q=>q.elim (by rw[hin];simp) hoz)]
 rw[hnr]at C6
 clear hnr
 refine y4 ?_;refine aa (au (by exact rfl) (by assumption) (by assumption) (by assumption)) ?_;refine aa (au (by exact rfl) (by assumption) (by assumption) (by assumption)) ?_
 refine yC ?_
 refine FW.al C6 (fun v h' m q=>q) ?_
 rintro _ H5 x5 ⟨u,rfl,q5⟩
 clear C6
 have n5:=x5.next
 have ey5:=ey4.trans x5
 have W5:=ey5.wf hr.wf
 have hL5:=x5.log.trans hL4
 have g75:=(x5.old _ (by omega)).trans g74
 have C0:Pu T 21 [] {H5 with log:=[]} (.bool true):=Kh F.f21 (show Tab H5 from hg.ext ey5 h2)
 clear g04 g14 g74
 cases hm:sw w with
 |true=>
  rw[if_pos rfl]
  have m1:aC .neq (.int .i64 82) (.int .i64 0)=some (.bool true):=rfl
  have m2:aC .eql (.int .i64 82) (.int .i64 82)=some (.bool true):=rfl
  refine yM ?_;refine yE ?_;refine yE ?_;refine yM ?_;refine yM ?_;refine y3 ?_;refine aq ?_
  refine y4 ?_;refine yM ?_;refine aa (aF (by exact rfl) (by exact rfl) (by with_reducible assumption)) ?_;refine y3 ?_;refine yY ?_;refine y4 ?_
  refine yC ?_
  refine FW.pu C0 ?_
  refine yM ?_;refine yO ?_;refine yM ?_;refine yO ?_;refine aa (aF (by exact rfl) (by exact rfl) (by with_reducible assumption)) ?_;refine yT ?_;refine yM ?_;refine y3 ?_;refine aP ?_;refine eO ?_
  exact aH hL5 rfl rfl
 |false=>
 rw[hm,if_neg (by simp)]at q5
 rw[if_neg (by simp)]
 generalize kF w o=n at*
 obtain⟨a,c,rfl⟩:=q5.form
 have sq:=q5.ss hnok
 refine yM ?_;refine yE ?_;refine yE ?_;refine yM ?_;refine yM ?_;refine y3 ?_;refine aq ?_
 refine y4 ?_;refine yM ?_;refine aa (aF (by exact rfl) (by exact rfl) (by with_reducible assumption)) ?_;refine y3 ?_;refine yX ?_;refine aM ?_;refine br ?_;refine y4 ?_;refine yM ?_;refine y3 ?_;refine aq ?_;refine y4 ?_;refine yM ?_;refine y3 ?_;refine aI ?_
 refine dh (fun m e ds h'=>∃i:Nat,i≤n.length∧n.length-i=m∧e=[(7, .pointer (some ⟨H1.next,0,none⟩)),(11, .bool (ic t o)),(12, .slice a n.length c),(14, .bool ((n.take i).any fun x=>sIn x t)),(15, .int .i64 (i:Nat))]∧ds=[]∧H5=h')
  ⟨0,Nat.zero_le _,rfl,rfl,rfl,rfl⟩ ?_
 rintro m e ds _ ⟨i,hi,rfl,rfl,rfl,rfl⟩
 by_cases hlt:i<n.length
 ·obtain⟨x,hx⟩:∃x,n[i]? =some x:=⟨n[i],List.getElem?_eq_getElem hlt⟩
  have hxs:=hnok x (List.mem_of_getElem? hx)
  obtain⟨b,oo,c2,vs,own,tt',hv,gl,hbl,el⟩:=sq.elem hx
  cases hv
  have kx8:=aV hxs.len
  have mlt:aC .lss (.int .i64 (i:Nat)) (.int .i64 (n.length:Nat))=some (.bool true):=j7 (by omega)
  have Cx:=vY hp F.sv.fi.ft.f35 F.sv.fi.ft.f121 (h:={H5 with log:=[]}) (.of W5) hxs ht
  have hst:(n.take (i+1)).any (fun x=>sIn x t)=((n.take i).any (fun x=>sIn x t)||sIn x t):=by rw[jg hx,List.any_append];simp
  refine aq ?_;refine y4 ?_;refine yM ?_;refine yM ?_;refine yD ?_;refine aa (aF (by exact rfl) (by exact rfl) (by with_reducible assumption)) ?_;refine y3 ?_
  refine yY ?_;refine aM ?_;refine br ?_;refine aq ?_;refine aI ?_
  refine ff (E0:=[(7, .pointer (some ⟨H1.next,0,none⟩)),(11, .bool (ic t o)),(12, .slice (some ⟨b,oo,none⟩) n.length c),(14, .bool ((n.take (i+1)).any fun x=>sIn x t)),(15, .int .i64 (i:Nat))]) (P:=fun h'=>H5=h') ?_ ?_
  ·rw[hst]
   cases hq:(n.take i).any (fun x=>sIn x t)with
   |true=>
    rw[Bool.true_or]
    refine cK ?_;refine qM ?_;refine qM ?_;refine ei rfl rfl rfl (by exact rfl) ?_;refine ei rfl rfl rfl (by exact rfl) ?_;refine ei rfl rfl rfl (by exact rfl) ?_;refine ei rfl rfl rfl (by exact rfl) ?_
    refine ei rfl rfl rfl (by exact rfl) ?_;refine ei rfl rfl rfl (by exact rfl) ?_;refine an rfl rfl rfl (by exact rfl) (by exact rfl) (by exact rfl) (pF (by exact rfl) (by exact rfl)) ?_;refine qM ?_;refine dF ?_
    refine y1 ?_
    exact⟨rfl,rfl,rfl,rfl⟩
   |false=>
    rw[Bool.false_or]
    refine cK ?_;refine qM ?_;refine qM ?_;refine qM ?_
    refine qM ?_;refine an rfl rfl rfl (by exact rfl) (by exact rfl) (by exact rfl) (cM (by exact rfl) (by exact rfl) (by omega)) ?_;refine an rfl rfl rfl (by exact rfl) (by exact rfl) (by exact rfl) (au (by exact rfl) (by assumption) (by assumption) (by assumption)) ?_
    refine an rfl rfl rfl (by exact rfl) (by exact rfl) (by exact rfl) (au (by exact rfl) (by assumption) (by assumption) (by assumption)) ?_
    refine qC ?_
    refine FW.puD Cx (by apply af rfl;apply af rfl;apply af rfl;apply af rfl;apply af rfl;apply af rfl;apply af rfl;exact cI) ?_
    refine an rfl rfl rfl (by exact rfl) (by exact rfl) (by exact rfl) (kM (by exact rfl) (by exact rfl)) ?_;refine qM ?_;refine dF ?_;refine y1 ?_
    exact⟨rfl,rfl,rfl,rfl⟩
  rintro _ rfl
  clear Cx hst
  refine y4 ?_;refine yM ?_;refine y3 ?_;refine aI ?_
  refine dh (fun m e ds h'=>∃k:Nat,k≤i∧i-k=m∧e=[(7, .pointer (some ⟨H1.next,0,none⟩)),(11, .bool (ic t o)),(12, .slice (some ⟨b,oo,none⟩) n.length c),(14, .bool ((n.take (i+1)).any fun x=>sIn x t)),(15, .int .i64 (i:Nat)),(16, .int .i64 (k:Nat))]∧ds=[]∧H5=h')
   ⟨0,Nat.zero_le _,rfl,rfl,rfl,rfl⟩ ?_
  rintro m e ds _ ⟨k,hk,rfl,rfl,rfl,rfl⟩
  by_cases hki:k<i
  ·obtain⟨y,hy⟩:∃x,n[k]? =some x:=⟨n[k],List.getElem?_eq_getElem (by omega)⟩
   have hys:=hnok y (List.mem_of_getElem? hy)
   obtain⟨b2,oo2,c3,vs2,own2,tt2,hv,gl2,hbl2,el2⟩:=sq.elem hy
   cases hv
   obtain⟨rfl,rfl,rfl⟩:vs2=vs∧own2=own∧tt2=tt':=by
    have e:=gl2.symm.trans gl
    injection e with e
    injection e with e1 e2 e3
    exact⟨e1,e2,e3⟩
   have ky8:=aV hys.len
   obtain⟨ap1,ap2⟩:=hap i k x y hx hy hki
   have Cx:=vY hp F.sv.fi.ft.f35 F.sv.fi.ft.f121 (h:={H5 with log:=[]}) (.of W5) hxs hys
   have Cy:=vY hp F.sv.fi.ft.f35 F.sv.fi.ft.f121 (h:={H5 with log:=[]}) (.of W5) hys hxs
   rw[ap1]at Cx
   rw[ap2]at Cy
   have mlk:aC .lss (.int .i64 (k:Nat)) (.int .i64 (i:Nat))=some (.bool true):=j7 (by omega)
   refine aq ?_;refine y4 ?_;refine yM ?_;refine yM ?_;refine aa (aF (by exact rfl) (by exact rfl) (by with_reducible assumption)) ?_;refine y3 ?_;refine yY ?_
   refine aM ?_;refine br ?_;refine aq ?_;refine aI ?_;refine aq ?_;refine cK ?_;refine qM ?_;refine qM ?_
   refine an rfl rfl rfl (by exact rfl) (by exact rfl) (by exact rfl) (cM (by exact rfl) (by exact rfl) (by omega)) ?_;refine an rfl rfl rfl (by exact rfl) (by exact rfl) (by exact rfl) (au (by exact rfl) (by assumption) (by assumption) (by assumption)) ?_;refine qM ?_
   refine qM ?_;refine an rfl rfl rfl (by exact rfl) (by exact rfl) (by exact rfl) (cM (by exact rfl) (by exact rfl) (by omega)) ?_;refine an rfl rfl rfl (by exact rfl) (by exact rfl) (by exact rfl) (au (by exact rfl) (by assumption) (by assumption) (by assumption)) ?_
   refine qC ?_
   refine FW.puD Cx (by apply af rfl;apply af rfl;apply af rfl;apply af rfl;apply af rfl;apply af rfl;apply af rfl;apply af rfl;exact cI) ?_
   clear Cx
   refine qM ?_;refine qM ?_;refine qM ?_
   refine an rfl rfl rfl (by exact rfl) (by exact rfl) (by exact rfl) (cM (by exact rfl) (by exact rfl) (by omega)) ?_;refine an rfl rfl rfl (by exact rfl) (by exact rfl) (by exact rfl) (au (by exact rfl) (by assumption) (by assumption) (by assumption)) ?_;refine qM ?_
   refine qM ?_;refine an rfl rfl rfl (by exact rfl) (by exact rfl) (by exact rfl) (cM (by exact rfl) (by exact rfl) (by omega)) ?_;refine an rfl rfl rfl (by exact rfl) (by exact rfl) (by exact rfl) (au (by exact rfl) (by assumption) (by assumption) (by assumption)) ?_
   refine qC ?_
   refine FW.puD Cy (by apply af rfl;apply af rfl;apply af rfl;apply af rfl;apply af rfl;apply af rfl;apply af rfl;apply af rfl;apply af rfl;exact cI) ?_
   clear Cy
   refine an rfl rfl rfl (by exact rfl) (by exact rfl) (by exact rfl) (kM (by exact rfl) (by exact rfl)) ?_;refine dF ?_;refine y1 ?_;refine br ?_;refine yX ?_;refine aM ?_;refine fI ?_;refine br ?_;refine aK ?_;refine yM ?_
   refine iI ?_;refine yM ?_;refine y3 ?_
   exact⟨i-(k+1),by omega,k+1,by omega,rfl,rfl,rfl,rfl⟩
  ·obtain rfl:k=i:=by omega
   have mlk:aC .lss (.int .i64 (k:Nat)) (.int .i64 (k:Nat))=some (.bool false):=kT (by omega)
   refine aq ?_;refine y4 ?_;refine yM ?_;refine yM ?_;refine aa (aF (by exact rfl) (by exact rfl) (by with_reducible assumption)) ?_;refine y3 ?_;refine yX ?_
   refine cU ?_;refine dU ?_;refine dU ?_;refine iw ?_;refine fI ?_;refine br ?_;refine aK ?_;refine yM ?_;refine iI ?_;refine yM ?_;refine y3 ?_
   exact⟨n.length-(k+1),by omega,k+1,by omega,rfl,rfl,rfl,rfl⟩
 ·obtain rfl:i=n.length:=by omega
  rw[List.take_length,hni]
  have mlt:aC .lss (.int .i64 (n.length:Nat)) (.int .i64 (n.length:Nat))=some (.bool false):=kT (by omega)
  refine aq ?_;refine y4 ?_;refine yM ?_;refine yM ?_;refine yD ?_;refine aa (aF (by exact rfl) (by exact rfl) (by with_reducible assumption)) ?_;refine y3 ?_
  refine yX ?_;refine cU ?_;refine dU ?_;refine dU ?_;refine iw ?_;refine br ?_;refine y4 ?_
  refine yC ?_
  refine FW.pu C0 ?_
  cases hf:ic t o<;>(rw[hf]at*)
  ·refine yM ?_;refine yO ?_;refine yM ?_;refine yO ?_;refine yM ?_;refine yO ?_;refine aa (Fc (by exact rfl) (by exact rfl)) ?_;refine yT ?_;refine yM ?_;refine y3 ?_;refine aP ?_
   exact aH hL5 rfl rfl
  ·refine yM ?_;refine yO ?_;refine yM ?_;refine yO ?_;refine yM ?_;refine yO ?_;refine aa (Fc (by exact rfl) (by exact rfl)) ?_;refine yT ?_;refine yM ?_;refine y3 ?_;refine aP ?_
   exact aH hL5 rfl rfl
end Go.A.Pk
end
section
set_option maxRecDepth 100000
namespace Go.A.Pk
open Go Go.Proofs
theorem ME:mH.h0=Ca 2 (yy.map fun n=> .int .u8 (n:Nat)) 1000:=by kernel_rfl
theorem O8:Entry Tryz.prog 21 (.jI pSd):= .jI (Ft sound (g:=2) (n:=1000) (vs:=yy.map fun n=> .int .u8 (n:Nat)) Tryz.func21 (of_decide_eq_true (by kernel_rfl)) (by kernel_rfl) lR (by decide) (by kernel_rfl) (by kernel_rfl) fun args v h h' hp=>by
 unfold pSd at hp
 split at hp
 ·split at hp
  ·rename_i hT
   cases hp
   refine⟨rfl,hT,fun a ha=>(nomatch ha),rfl,?_⟩
   rw[←ME]
   exact mH.run
  ·cases hp
 ·cases hp)
end Go.A.Pk
end
section
set_option maxRecDepth 100000
namespace Go.A.Pk
open Go Go.Proofs Go.Joins Go.ChangeShapes Go.WideShapes Go.RowKit Go.Deep
section
variable {H:Type} {enc:TypeId×Value→H} {W:World} {base:Nat} {spare:Nat→Bool} {held:Bool}
theorem vw{t e:TypeId}{n:Nat}{v:Value}(ht:Tryz.prog.underlying t=some (.array n e))(h:Value.okWide Tryz.prog W .any base t v):∃cs,v= .agg cs:=by
 simp only[Value.okWide,ht]at h
 obtain⟨cs,h1,_⟩:=h
 exact⟨cs,h1⟩
theorem tA{v:Value}{d:DataW H}{p:List MemPlace}(hv:Value.okWide Tryz.prog W .any base 24 v)(h:DataW.Trod enc Tryz.prog W 0 spare held 24 v d p):∃s:List Nat,IsS s∧v=sv s:=by
 obtain⟨cs,rfl⟩:=vw Tryz.underlying24 hv
 obtain⟨fuel,hf⟩:=h
 obtain⟨s,hs,hk⟩:=mN hf
 refine⟨s,hs,?_⟩
 have:cs=(us s).toArray:=by rw[←hk];simp[Value.cells]
 rw[this];rfl
end
end Go.A.Pk
end
section
set_option maxRecDepth 100000
namespace Go.A.Pk
open Go Go.Proofs Go.Joins Go.ChangeShapes Go.WideShapes Go.RowKit Go.Deep
section
variable {H:Type} {enc:TypeId×Value→H} {W:World} {base:Nat} {spare:Nat→Bool} {held:Bool}
theorem Ie:Tryz.prog.cellsOf 26=16:=by kernel_rfl
theorem zK{fuel:Nat}{cs:List Value}{x:DataW H×List MemPlace}(h:DataW.trod enc Tryz.prog W base spare held fuel 26 cs=some x):∃w:List Nat×List Nat,IsW w∧cs=wL w:=by
 obtain⟨xs,n,_,hx,hcl,hlen,hg⟩:=DataW.trod_struct Tryz.underlying26 h
 rw[Ie]at hcl
 match cs,hcl with
 |[c0,c1,c2,c3,c4,c5,c6,c7,c8,c9,c10,c11,c12,c13,c14,c15],_=>
  match xs,hlen with
  |[yq0,yq1],_=>
   have g0:DataW.trod enc Tryz.prog W base spare held n 24 [c0,c1,c2,c3,c4,c5,c6,c7]=some yq0:=by have:=hg 0 _ rfl;simpa[wu]using this
   have g1:DataW.trod enc Tryz.prog W base spare held n 24 [c8,c9,c10,c11,c12,c13,c14,c15]=some yq1:=by have:=hg 1 _ rfl;simpa[wu]using this
   obtain⟨s0,h0,e0⟩:=mN g0
   obtain⟨s1,h1,e1⟩:=mN g1
   refine⟨(s0,s1),⟨h0,h1⟩,?_⟩
   show _=us s0++us s1
   rw[←e0,←e1];rfl
theorem CB{v:Value}{d:DataW H}{p:List MemPlace}(hv:Value.okWide Tryz.prog W .any base 26 v)(h:DataW.Trod enc Tryz.prog W 0 spare held 26 v d p):∃w:List Nat×List Nat,IsW w∧v=wV w:=by
 obtain⟨cs,rfl,_⟩:=okWide_struct Tryz.underlying26 hv
 obtain⟨fuel,hf⟩:=h
 have hf:DataW.trod enc Tryz.prog W 0 spare held fuel 26 cs.toList=some (d,p):=by simpa[Value.cells]using hf
 obtain⟨w,hw,e⟩:=zK hf
 refine⟨w,hw,?_⟩
 have hcs:cs=cs.toList.toArray:=by simp
 rw[hcs,e];rfl
end
end Go.A.Pk
end
section
set_option maxRecDepth 100000
namespace Go.A.Pk
open Go Go.Proofs
theorem c5:aL Tryz.prog Tryz.f5 [[3,4,5],[3,4,5,26],[6],[3,4,7],[3,4,7,8,9],[3,4,7,8,38],[6],[3,4,7,8,11],[3,4,7,11,58],[6],[7,11,12,13],[7,11,12,13,66],[6],[7,11,12,14],[7,11,12,14,15],[7,11,12,14,15,75],[7,11,12,14,15],[7,11,12,14,15,16],[7,11,12,14,15,16,89],[7,11,12,14,15,16,111],[6],[7,11,12,14,15,16],[7,11,12,14,15],[6]]=some f5:=by kernel_rfl
theorem c20:aL Tryz.prog Tryz.f20 [[1,2],[1,10],[4],[1,5],[1,5,17],[1,5,6],[1,5,34],[4],[1,5],[4]]=some f20:=by kernel_rfl
theorem c31:aL Tryz.prog Tryz.f31 [[1],[8],[2],[2]]=some f31:=by kernel_rfl
theorem c32:aL Tryz.prog Tryz.f32 [[2,3,4],[4]]=some f32:=by kernel_rfl
theorem c35:aL Tryz.prog Tryz.f35 [[2,3],[4]]=some f35:=by kernel_rfl
theorem c49:aL Tryz.prog Tryz.f49 [[2,3],[2,3,6],[2,3,6,14],[2,3,6],[2,3,6,19],[4,5],[2,3,8],[8,10],[10,35],[4,5],[36],[4,5],[4,5]]=some f49:=by kernel_rfl
theorem c51:aL Tryz.prog Tryz.f51 [[2,3,4],[2,3,4,19],[4,5],[2,3,4,25],[4,5],[2,3,4,6],[2,3,4,6,28],[2,3,4,6,7],[2,3,4,6,7,9],[2,3,4,6,7,9,11],[2,3,4,6,7,9,11,51],[2,3,4,6,7,9,11,12],[2,3,4,6,7,9,11,12,63],[2,3,4,6,7,9,11,12,13],[2,3,4,6,7,9,11,12,13,75],[2,3,4,6,7,9,11,12,13,14],[2,3,4,6,7,9,11,12,13,16],[2,3,4,6,7,9,11,12,13,89],[4,5],[2,3,4,6,7,9,11,12,13],[2,3,4,6,7,9,11,12],[2,3,4,6,7,9,11],[2,3,4,6],[4,5]]=some f51:=by kernel_rfl
theorem c52:aL Tryz.prog Tryz.f52 [[2,3],[4]]=some f52:=by kernel_rfl
theorem c84:aL Tryz.prog Tryz.f84 [[1],[2]]=some f84:=by kernel_rfl
theorem c93:aL Tryz.prog Tryz.f93 [[0],[0,6],[2],[0,3],[0,3,10],[0,3,18],[2],[0,3],[2]]=some f93:=by kernel_rfl
theorem OY:aL Tryz.prog Tryz.f118 [[2,3,4],[2,3,4,5],[2,3,4,5,7],[2,3,4,5],[2,3,4,5],[4]]=some f118:=by kernel_rfl
theorem NR:aL Tryz.prog Tryz.f119 [[2,3,4],[2,3,4,5],[2,3,4,5,7],[2,3,4,5],[2,3,4,5],[4]]=some f119:=by kernel_rfl
theorem NS:aL Tryz.prog Tryz.f137 [[1,2,4],[1,2,4,14],[4,5],[1,2,4,6],[1,4,6,7],[1,4,6,7,8],[1,4,6,7,8,21],[1,4,6,7,8],[1,4,6,7,8],[4,5]]=some f137:=by kernel_rfl
theorem O0:aL Tryz.prog Tryz.f138 [[1,2],[2,4],[2,4,11],[2,3],[2,4,5],[2,4,5,6],[2,4,5,6,23],[2,4,5,6],[2,4,5,6],[2,4,5,6],[2,4,5,6],[2,4,5,6],[2,4,5,6],[2,4,5,6],[2,3]]=some f138:=by kernel_rfl
theorem Og:aL Tryz.prog Tryz.f139 [[1,2,3,4,8],[1,2,3,8,10],[1,2,3,8,10,33],[8,9],[1,2,3,8,10,11],[1,2,3,8,10,11,12],[1,2,3,8,10,11,12,38],[1,2,3,8,10,11,12,13],[1,2,3,8,10,11,12,13,51],[8,9],[1,2,3,8,10,11,12],[1,2,3,8,10,11,12],[8,9]]=some f139:=by kernel_rfl
theorem Ou:aL Tryz.prog Tryz.f140 [[2,3,4],[2,3,4,5],[2,3,4,5,7],[2,3,4,5],[2,3,4,5],[4]]=some f140:=by kernel_rfl
theorem OQ:aL Tryz.prog Tryz.f170 [[1],[1,3],[1,3,4],[1,3,4,9],[1,3,4,5],[1,3,4,5,13],[1,3,4,5,6],[1,3,4,5,6,17],[1,3,4,5,6,7],[1,3,4,5,6,7,26],[1,3,4,5,6],[1,3,4,5,6],[1,3,4,5],[1,3,4],[2]]=some f170:=by kernel_rfl
theorem OG:aL Tryz.prog Tryz.f171 [[2,3],[4]]=some f171:=by kernel_rfl
theorem OA:aL Tryz.prog Tryz.f221 [[2,3,4],[2,4],[4]]=some f221:=by kernel_rfl
theorem Ov:aL Tryz.prog Tryz.f222 [[1,2,4],[1,2,4],[1,2,4,5],[1,2,4,5,13],[1,2,4,5],[1,2,4,5],[4]]=some f222:=by kernel_rfl
theorem Ol:aL Tryz.prog Tryz.f223 [[0],[2]]=some f223:=by kernel_rfl
theorem OD:aL Tryz.prog Tryz.f224 [[1,2,3,4,8],[8]]=some f224:=by kernel_rfl
theorem O2:aL Tryz.prog Tryz.f225 [[1],[2]]=some f225:=by kernel_rfl
theorem Pf:aL Tryz.prog Tryz.f267 [[1,2,4],[2,4,5],[2,4,5,6],[4],[2,4,5,16],[4],[2,4,5,27],[4],[2,4,5,37],[4],[2,4,47],[4],[4]]=some f267:=by kernel_rfl
noncomputable def Ej:Tr:=(.node (.node (.node (.node (.node (.node (.node .nil 5 f5 .nil) 20 f20 .nil) 21 (.jI pSd) (.node .nil 22 f22 .nil)) 31 f31 (.node (.node .nil 32 f32 .nil) 33 f33 (.node .nil 34 f34 .nil))) 35 f35 (.node (.node (.node (.node .nil 49 f49 .nil) 51 f51 .nil) 52 f52 (.node .nil 72 f72 .nil)) 84 f84 (.node (.node .nil 89 f89 .nil) 90 f90 (.node .nil 91 f91 .nil)))) 92 f92 (.node (.node (.node (.node (.node .nil 93 f93 .nil) 118 f118 .nil) 119 f119 (.node .nil 120 f120 .nil)) 121 f121 (.node (.node .nil 123 f123 .nil) 124 f124 (.node .nil 126 f126 .nil))) 127 f127 (.node (.node (.node .nil 137 f137 .nil) 138 f138 (.node .nil 139 f139 .nil)) 140 f140 (.node (.node .nil 167 f167 .nil) 170 f170 (.node .nil 171 f171 .nil))))) 188 f188 (.node (.node (.node (.node (.node (.node .nil 189 (.jI (mP 168 190)) .nil) 192 f192 .nil) 193 f193 (.node .nil 194 f194 .nil)) 195 f195 (.node (.node .nil 196 f196 .nil) 197 f197 (.node .nil 209 f209 .nil))) 210 f210 (.node (.node (.node (.node .nil 211 f211 .nil) 212 f212 .nil) 213 f213 (.node .nil 214 f214 .nil)) 215 f215 (.node (.node .nil 221 f221 .nil) 222 f222 (.node .nil 223 f223 .nil)))) 224 f224 (.node (.node (.node (.node (.node .nil 225 f225 .nil) 254 f254 .nil) 257 f257 (.node .nil 261 f261 .nil)) 262 f262 (.node (.node .nil 263 f263 .nil) 264 f264 (.node .nil 265 f265 .nil))) 266 f266 (.node (.node (.node .nil 267 f267 .nil) 317 f317 (.node .nil 318 f318 .nil)) 319 f319 (.node (.node .nil 320 f320 .nil) 321 f321 (.node .nil 322 f322 .nil))))))
noncomputable def T5:Nat→Option ak:=Ej.get
theorem O6:Ej.all (Entry Tryz.prog):=by
 unfold Ej
 exact(Tr.ah (Tr.ah (Tr.ah (Tr.ah (Tr.ah (Tr.ah (Tr.ah Tr.all_nil (.of Tryz.func5 c5) Tr.all_nil) (.of Tryz.func20 c20) Tr.all_nil) O8 (Tr.ah Tr.all_nil (.of Tryz.func22 c22) Tr.all_nil)) (.of Tryz.func31 c31) (Tr.ah (Tr.ah Tr.all_nil (.of Tryz.func32 c32) Tr.all_nil) (.of Tryz.func33 c33) (Tr.ah Tr.all_nil (.of Tryz.func34 c34) Tr.all_nil))) (.of Tryz.func35 c35) (Tr.ah (Tr.ah (Tr.ah (Tr.ah Tr.all_nil (.of Tryz.func49 c49) Tr.all_nil) (.of Tryz.func51 c51) Tr.all_nil) (.of Tryz.func52 c52) (Tr.ah Tr.all_nil (.of Tryz.func72 c72) Tr.all_nil)) (.of Tryz.func84 c84) (Tr.ah (Tr.ah Tr.all_nil (.of Tryz.func89 c89) Tr.all_nil) (.of Tryz.func90 c90) (Tr.ah Tr.all_nil (.of Tryz.func91 c91) Tr.all_nil)))) (.of Tryz.func92 c92) (Tr.ah (Tr.ah (Tr.ah (Tr.ah (Tr.ah Tr.all_nil (.of Tryz.func93 c93) Tr.all_nil) (.of Tryz.func118 OY) Tr.all_nil) (.of Tryz.func119 NR) (Tr.ah Tr.all_nil (.of Tryz.func120 Nd) Tr.all_nil)) (.of Tryz.func121 M9) (Tr.ah (Tr.ah Tr.all_nil (.of Tryz.func123 MA) Tr.all_nil) (.of Tryz.func124 LY) (Tr.ah Tr.all_nil (.of Tryz.func126 L6) Tr.all_nil))) (.of Tryz.func127 Nv) (Tr.ah (Tr.ah (Tr.ah Tr.all_nil (.of Tryz.func137 NS) Tr.all_nil) (.of Tryz.func138 O0) (Tr.ah Tr.all_nil (.of Tryz.func139 Og) Tr.all_nil)) (.of Tryz.func140 Ou) (Tr.ah (Tr.ah Tr.all_nil (.of Tryz.func167 Nh) Tr.all_nil) (.of Tryz.func170 OQ) (Tr.ah Tr.all_nil (.of Tryz.func171 OG) Tr.all_nil))))) (.of Tryz.func188 Ns) (Tr.ah (Tr.ah (Tr.ah (Tr.ah (Tr.ah (Tr.ah Tr.all_nil NA Tr.all_nil) (.of Tryz.func192 M3) Tr.all_nil) (.of Tryz.func193 MQ) (Tr.ah Tr.all_nil (.of Tryz.func194 LK) Tr.all_nil)) (.of Tryz.func195 Mm) (Tr.ah (Tr.ah Tr.all_nil (.of Tryz.func196 LW) Tr.all_nil) (.of Tryz.func197 MN) (Tr.ah Tr.all_nil (.of Tryz.func209 Mn) Tr.all_nil))) (.of Tryz.func210 Nu) (Tr.ah (Tr.ah (Tr.ah (Tr.ah Tr.all_nil (.of Tryz.func211 L9) Tr.all_nil) (.of Tryz.func212 Nt) Tr.all_nil) (.of Tryz.func213 MK) (Tr.ah Tr.all_nil (.of Tryz.func214 MS) Tr.all_nil)) (.of Tryz.func215 M8) (Tr.ah (Tr.ah Tr.all_nil (.of Tryz.func221 OA) Tr.all_nil) (.of Tryz.func222 Ov) (Tr.ah Tr.all_nil (.of Tryz.func223 Ol) Tr.all_nil)))) (.of Tryz.func224 OD) (Tr.ah (Tr.ah (Tr.ah (Tr.ah (Tr.ah Tr.all_nil (.of Tryz.func225 O2) Tr.all_nil) (.of Tryz.func254 Mf) Tr.all_nil) (.of Tryz.func257 Ng) (Tr.ah Tr.all_nil (.of Tryz.func261 L5) Tr.all_nil)) (.of Tryz.func262 Mc) (Tr.ah (Tr.ah Tr.all_nil (.of Tryz.func263 My) Tr.all_nil) (.of Tryz.func264 LO) (Tr.ah Tr.all_nil (.of Tryz.func265 LN) Tr.all_nil))) (.of Tryz.func266 LM) (Tr.ah (Tr.ah (Tr.ah Tr.all_nil (.of Tryz.func267 Pf) Tr.all_nil) (.of Tryz.func317 MM) (Tr.ah Tr.all_nil (.of Tryz.func318 Mr) Tr.all_nil)) (.of Tryz.func319 NB) (Tr.ah (Tr.ah Tr.all_nil (.of Tryz.func320 Me) Tr.all_nil) (.of Tryz.func321 MD) (Tr.ah Tr.all_nil (.of Tryz.func322 Mt) Tr.all_nil))))))
theorem jf:ef Tryz.prog T5:=nT (by kernel_rfl) O6
theorem Pp:Jt T5:={ne:={nd:={pl:={fi:={ft:={mp:={cp:={p:=jf.bA,f123:=by kernel_rfl,f213:=by kernel_rfl,f214:=by kernel_rfl,f264:=by kernel_rfl,f265:=by kernel_rfl,f266:=by kernel_rfl},tu:={p:=jf.bA,f263:=by kernel_rfl,f317:=by kernel_rfl,f318:=by kernel_rfl,f319:=by kernel_rfl,f320:=by kernel_rfl,f321:=by kernel_rfl,f322:=by kernel_rfl},f126:=by kernel_rfl,f127:=by kernel_rfl,f211:=by kernel_rfl,f215:=by kernel_rfl,f261:=by kernel_rfl,f262:=by kernel_rfl},bd:={cp:={p:=jf.bA,f123:=by kernel_rfl,f213:=by kernel_rfl,f214:=by kernel_rfl,f264:=by kernel_rfl,f265:=by kernel_rfl,f266:=by kernel_rfl},f210:=by kernel_rfl},li:={p:=jf.bA,f212:=by kernel_rfl},co:={p:=jf.bA,f188:=by kernel_rfl,f254:=by kernel_rfl},f35:=by kernel_rfl,f121:=by kernel_rfl,f209:=by kernel_rfl},f34:=by kernel_rfl,f120:=by kernel_rfl},f72:=by kernel_rfl,f167:=by kernel_rfl,f189:=by kernel_rfl,f192:=by kernel_rfl},f35:=by kernel_rfl,f92:=by kernel_rfl,f121:=by kernel_rfl,f124:=by kernel_rfl,f193:=by kernel_rfl,f194:=by kernel_rfl,f195:=by kernel_rfl,f196:=by kernel_rfl,f197:=by kernel_rfl,f257:=by kernel_rfl},f22:=by kernel_rfl,f89:=by kernel_rfl,f90:=by kernel_rfl,f91:=by kernel_rfl},sv:={fi:={ft:={mp:={cp:={p:=jf.bA,f123:=by kernel_rfl,f213:=by kernel_rfl,f214:=by kernel_rfl,f264:=by kernel_rfl,f265:=by kernel_rfl,f266:=by kernel_rfl},tu:={p:=jf.bA,f263:=by kernel_rfl,f317:=by kernel_rfl,f318:=by kernel_rfl,f319:=by kernel_rfl,f320:=by kernel_rfl,f321:=by kernel_rfl,f322:=by kernel_rfl},f126:=by kernel_rfl,f127:=by kernel_rfl,f211:=by kernel_rfl,f215:=by kernel_rfl,f261:=by kernel_rfl,f262:=by kernel_rfl},bd:={cp:={p:=jf.bA,f123:=by kernel_rfl,f213:=by kernel_rfl,f214:=by kernel_rfl,f264:=by kernel_rfl,f265:=by kernel_rfl,f266:=by kernel_rfl},f210:=by kernel_rfl},li:={p:=jf.bA,f212:=by kernel_rfl},co:={p:=jf.bA,f188:=by kernel_rfl,f254:=by kernel_rfl},f35:=by kernel_rfl,f121:=by kernel_rfl,f209:=by kernel_rfl},f34:=by kernel_rfl,f120:=by kernel_rfl},f33:=by kernel_rfl,f89:=by kernel_rfl,f90:=by kernel_rfl},rs:={rf:={tr:={cr:={hr:={p:=jf.bA,f171:=by kernel_rfl,f225:=by kernel_rfl},f170:=by kernel_rfl},f137:=by kernel_rfl,f139:=by kernel_rfl,f221:=by kernel_rfl,f222:=by kernel_rfl,f223:=by kernel_rfl,f224:=by kernel_rfl,f267:=by kernel_rfl},f51:=by kernel_rfl,f52:=by kernel_rfl,f84:=by kernel_rfl,f138:=by kernel_rfl,f140:=by kernel_rfl,f225:=by kernel_rfl},f31:=by kernel_rfl,f49:=by kernel_rfl,f93:=by kernel_rfl},lt:={cr:={hr:={p:=jf.bA,f171:=by kernel_rfl,f225:=by kernel_rfl},f170:=by kernel_rfl},f20:=by kernel_rfl,f84:=by kernel_rfl},f5:=by kernel_rfl,f21:=by kernel_rfl,f32:=by kernel_rfl,f118:=by kernel_rfl,f119:=by kernel_rfl}
theorem Lj{W:World}{G:Gl}(hG:wJ W G):∃(h:Heap) (μ:Mu),R Tryz.prog μ h W∧(∀b o,h.get b=some o→o.ro=true∨o.live=false)∧Rdy h∧1000≤h.next∧(∀g vs,(g,vs)∈G→h.get g=some (.cells vs false 1)):=
 ⟨obH G [],obM G [],R.obs hG (fun o ho=>by cases ho),J5 hG,H9 hG _,Nat.le_add_right _ _,fun g vs h=>Lg hG _ h⟩
open Go.RowKit in
theorem vA{W:World}(V:vn W){w:List Nat×List Nat}(hw:IsW w){o s:List Nat}(ho:IsS o)(hs:IsS s):Calls Tryz.prog 5 #[wV w,sv o,sv s] W fun e W'=>e= .returned (.bool true)∧Below W.heap.size W W':=by
 obtain⟨h,μ,hRR,hro,hrd,hnx,hgl⟩:=Lj V.gl
 obtain⟨r',h',⟨m,hm⟩,rfl,rfl⟩:=NT Pp hrd (hgl 2 _ List.mem_cons_self) (by omega) hw ho hs
 have hrun:=hm m (Nat.le_refl _)
 have ha:LR μ [wV w,sv o,sv s] [wV w,sv o,sv s]:= .cons (VR.cw (GR w)).1 (.cons (VR.cw (fO o)).1 (.cons (VR.cw (fO s)).1 .nil))
 refine(kI jf hrun hrd.log (by kernel_rfl) hRR ha).mono fun e W' hq=> ?_
 obtain⟨μ',q1,q2,q3⟩:=hq
 cases e with
 |returned v'=>
  have hv:VR μ' (.bool true) v':=q1
  cases hv
  exact⟨rfl,St.below q3 hro⟩
 |panicked _=>exact q1.elim
 |outgrown=>exact q1.elim
end Go.A.Pk
end
