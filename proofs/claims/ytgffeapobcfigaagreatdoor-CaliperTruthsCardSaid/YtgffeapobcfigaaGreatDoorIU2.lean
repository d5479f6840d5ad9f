/- Walks of functions, plain laws, the table. -/
import Derived.Test.YtgffeapobcfigaaGreatDoorIU1
import Derived.Test.YtgffeapobcfigaaGreatDoorID
import Derived.Test.YtgffeapobcfigaaGreatDoorIV
import Derived.Test.YtgffeapobcfigaaGreatDoorIF
import Derived.Test.YtgffeapobcfigaaGreatDoorIU0
import Derived.Sort.Row
import Derived.Sort.Grow
set_option linter.all false
section
set_option maxRecDepth 100000
namespace Go.A.Pk
variable {T:Nat→Option ak}
structure FxL (P:List Fi→Heap→Prop) (W:Heap→Nat→Prop) (lo:Nat) (h0:Heap) (q0 q:Nat) (rm bp:Bx) (p:List Nat) (D:List Fi) (g:Heap):Prop where
 k:Lk lo h0 g
 pd:P D g
 dm:((∀x,x<h0.next→g.get x=h0.get x)∧P D h0)∨q0∈g.log∧kN g q0
 nx:q+2<g.next
 g4:g.get h0.next=some (.cells (bxL rm) true 1)
 g7:g.get q=some (.cells (psL p bp) true 1)
 g8:g.get (q+1)=some (.cells (ceL bp.lo) true 1)
 g9:g.get (q+2)=some (.cells (ceL bp.hi) true 1)
 w4:¬W g h0.next
 w7:¬W g q
 w8:¬W g (q+1)
 w9:¬W g (q+2)
theorem Eb{P:List Fi→Heap→Prop}{h0:Heap}{q0:Nat}{D:List Fi}{g g':Heap}(hq0:q0<h0.next)(hn:h0.next≤g.next)(dm:((∀x,x<h0.next→g.get x=h0.get x)∧P D h0)∨q0∈g.log∧kN g q0)(x:Ext g g'):((∀x,x<h0.next→g'.get x=h0.get x)∧P D h0)∨q0∈g'.log∧kN g' q0:=by
 rcases dm with⟨a,b⟩|⟨a,vs,own,t,b,c⟩
 ·exact .inl ⟨fun z hz=>(x.old z (by omega)).trans (a z hz),b⟩
 ·exact .inr ⟨by rw[x.log];exact a,vs,own,t,(x.old _ (by omega)).trans b,c⟩
section
variable {lo N l q0:Nat} {all:List Fi} {P:List Fi→Heap→Prop} {W:Heap→Nat→Prop} {h0:Heap} {q:Nat} {rm bp:Bx} {p:List Nat} {D D':List Fi} {g g':Heap}
theorem FxL.ext(Y:BO T lo N l q0 fiV all P W)(f:FxL P W lo h0 q0 q rm bp p D g)(x:Ext g g')(hlo:lo≤g.next)(hq0:q0<h0.next)(hq:h0.next<q):FxL P W lo h0 q0 q rm bp p D g':=by
 have h1:=x.next
 have h2:=f.nx
 have hw:∀z,¬W g z→¬W g' z:=fun z hz q=>hz (Y.wst _ _ _ f.pd h1 x.old z q)
 exact⟨f.k.trans (x.lk hlo),Y.eW _ _ _ f.pd h1 x.old,Eb hq0 f.k.next f.dm x,by omega,(x.old _ (by omega)).trans f.g4,(x.old _ (by omega)).trans f.g7,(x.old _ (by omega)).trans f.g8,(x.old _ (by omega)).trans f.g9,hw _ f.w4,hw _ f.w7,hw _ f.w8,hw _ f.w9⟩
theorem FxL.step(f:FxL P W lo h0 q0 q rm bp p D g)(x:Lk lo g g')(hd:q0∈g'.log∧kN g' q0)(hP:P D' g')(hk:∀z,z<g.next→¬W g z→g'.get z=g.get z)(hw:∀z,W g' z→W g z∨g.next≤z)(hq:h0.next<q):FxL P W lo h0 q0 q rm bp p D' g':=by
 have h1:=x.next
 have h2:=f.nx
 have hw':∀z,z<g.next→¬W g z→¬W g' z:=fun z hz hn q=>(hw z q).elim hn fun q=>by omega
 exact⟨f.k.trans x,hP, .inr hd,by omega,(hk _ (by omega) f.w4).trans f.g4,(hk _ (by omega) f.w7).trans f.g7,(hk _ (by omega) f.w8).trans f.g8,(hk _ (by omega) f.w9).trans f.g9,hw' _ (by omega) f.w4,hw' _ (by omega) f.w7,hw' _ (by omega) f.w8,hw' _ (by omega) f.w9⟩
end
theorem CD{α:Type}{D:List Fi}{L:List α}{n:Nat}(h:D.length≤n){f:Fi}:(D++[f]).length≤n+1:=by rw[List.length_append];exact Nat.succ_le_succ h
set_option maxHeartbeats 32000000 in
theorem DK(F:Ek T){h:Heap}(hr:Rdy h){qa qb l q0 N lo:Nat}{a b:List Nat}(ha:IsS a)(hb:IsS b){P:List Fi→Heap→Prop}{W:Heap→Nat→Prop}(hN:N≤h.next)(hlo:lo≤h.next)(h2N:2<N)
 (Y:BO T lo N l q0 fiV (dK a b) P W)
 (ga:∀d H,P d H→H.get qa=some (.cells (us a) true 1))(gb:∀d H,P d H→H.get qb=some (.cells (us b) true 1))(htab:∀d H,P d H→Tab H)(h0:P [] h):
 Gr T 209 [.func (.yield l) #[] #[], .pointer (some ⟨qa,0,none⟩), .pointer (some ⟨qb,0,none⟩)] h lo fun v h'=>v= .tuple #[]∧P (dK a b) h':=by
 have hp:=F.li.p
 have ka8:=aV ha.len
 have ka9:=bE ha.len
 have kb8:=aV hb.len
 have kb9:=bE hb.len
 have hq0:q0<h.next:=Nat.lt_of_lt_of_le Y.hq hN
 refine Gr.ofK hp F.f209 hlo (fun v h1 hA p=>Dg Y hq0 hA p) ?_
 have C0:=nX F.bd (h:={h with log:=[]}) (.of hr.wf) (show Tab h from htab _ _ h0) (by show 2<h.next;omega) ha
 have gA:=ga _ _ h0
 unfold F8 at C0
 have hsome:(dy a).2= !decide (a=s0):=by
  unfold dy
  by_cases he:a=s0
  ·rw[if_pos he,decide_eq_true he];rfl
  ·rw[if_neg he,decide_eq_false he];rfl
 have hrm:=jR a
 have hft:∀t,jG a b t=xS a (dR b t) (dy a).1 (dy (dR b t)).1 t:=fun _=>rfl
 rw[hsome]at C0
 generalize(dy a).1=rm at*
 refine ff (E0:=[(0, .func (.yield l) #[] #[]),(1, .pointer (some ⟨qa,0,none⟩)),(2, .pointer (some ⟨qb,0,none⟩)),(4, .pointer (some ⟨h.next,0,none⟩)),(5, .bool (!decide (a=s0)))]) (P:=fun h'=>Ext h h'∧h'.next=h.next+1∧h'.get h.next=some (.cells (bxL rm) true 1)) ?_ ?_
 ·refine aK ?_;refine aa (au (by exact rfl) (by assumption) (by assumption) (by assumption)) ?_
  refine yC ?_
  refine FW.pu C0 ?_
  refine yM ?_;refine yE ?_;refine yE ?_;refine aa (di) ?_
  refine yS ?_;refine yM ?_;refine eD ?_
  refine y1 ?_
  exact⟨rfl,rfl,rfl,iu (by omega) _ _,rfl,jh _ _⟩
 clear C0
 rintro H1 ⟨x1,n1,q1⟩
 have W1:=x1.wf hr.wf
 have hL1:=x1.log.trans hr.log
 have hk1:Lk lo h H1:=⟨x1.next,fun hh=>by rw[hL1];exact eE.nil _,fun z hz=>x1.old z (by omega),x1.wf⟩
 have hP1:P [] H1:=Y.eW _ _ _ h0 x1.next x1.old
 have hdm1:((∀x,x<h.next→H1.get x=h.get x)∧P [] h)∨q0∈H1.log∧kN H1 q0:= .inl ⟨x1.old,h0⟩
 have hw1:¬W H1 h.next:=fun q=>Nat.lt_irrefl _ (Y.wlt _ _ _ h0 (Y.wst _ _ _ h0 x1.next x1.old _ q))
 have gA1:=ga _ _ hP1
 have gB1:=gb _ _ hP1
 clear gA
 by_cases he:a=s0
 ·have hf:dK a b=[]:=if_pos (.inl he)
  rw[hf,decide_eq_true he]
  refine aq ?_;refine aq ?_;refine cK ?_;refine qM ?_;refine an rfl rfl rfl (by exact rfl) (by exact rfl) (by exact rfl) (tc (by exact rfl)) ?_;refine qM ?_;refine ei rfl rfl rfl (by exact rfl) ?_
  refine ei rfl rfl rfl (by exact rfl) ?_;refine ei rfl rfl rfl (by exact rfl) ?_;refine ei rfl rfl rfl (by exact rfl) ?_;refine ei rfl rfl rfl (by exact rfl) ?_;refine an rfl rfl rfl (by exact rfl) (by exact rfl) (by exact rfl) (pF (by exact rfl) (by exact rfl)) ?_;refine dF ?_
  refine y1 ?_;refine br ?_;refine yY ?_;refine aP ?_;refine eO ?_
  exact xW (hk1.log (by rw[hr.log];exact eE.nil _)) rfl ⟨rfl,hP1,hdm1⟩
 rw[decide_eq_false he]
 have C1:=lK F.co (h:={H1 with log:=[]}) (.of W1) hb
 have C2:=lK F.co (h:={H1 with log:=[]}) (.of W1) ha
 by_cases hcn:dL a<dL b
 ·have hf:dK a b=[]:=if_pos (.inr hcn)
  rw[hf]
  have m1:aC .gtr (.int .i64 ((dL b:Nat):Int)) (.int .i64 ((dL a:Nat):Int))=some (.bool true):=oI (by omega)
  refine aq ?_;refine aq ?_;refine cK ?_;refine qM ?_;refine an rfl rfl rfl (by exact rfl) (by exact rfl) (by exact rfl) (tc (by exact rfl)) ?_;refine qM ?_
  refine an rfl rfl rfl (by exact rfl) (by exact rfl) (by exact rfl) (au (by exact rfl) (by assumption) (by assumption) (by assumption)) ?_;refine an rfl rfl rfl (by exact rfl) (by exact rfl) (by exact rfl) (au (by exact rfl) (by assumption) (by assumption) (by assumption)) ?_
  refine qC ?_
  refine FW.puD C1 (by apply bB rfl (aO rfl (au (by exact rfl) (by assumption) (by assumption) (by assumption)) (by exact tL _)) rfl;apply af rfl;apply af rfl;apply af rfl;apply af rfl;exact cI) ?_
  skip
  refine qC ?_
  refine FW.puD C2 (by apply af rfl;exact cI) ?_
  refine an rfl rfl rfl (by exact rfl) (by exact rfl) (by exact rfl) (aF (by exact rfl) (by exact rfl) (by with_reducible assumption)) ?_;refine an rfl rfl rfl (by exact rfl) (by exact rfl) (by exact rfl) (kM (by exact rfl) (by exact rfl)) ?_;refine dF ?_;refine y1 ?_;refine br ?_
  refine yY ?_;refine aP ?_;refine eO ?_
  exact xW (hk1.log (by rw[hr.log];exact eE.nil _)) rfl ⟨rfl,hP1,hdm1⟩
 have hf:dK a b=(List.range 24).flatMap (jG a b):=if_neg (fun q=>q.elim he hcn)
 have m1:aC .gtr (.int .i64 ((dL b:Nat):Int)) (.int .i64 ((dL a:Nat):Int))=some (.bool false):=nh (by omega)
 refine aq ?_;refine aq ?_;refine cK ?_;refine qM ?_;refine an rfl rfl rfl (by exact rfl) (by exact rfl) (by exact rfl) (tc (by exact rfl)) ?_;refine qM ?_
 refine an rfl rfl rfl (by exact rfl) (by exact rfl) (by exact rfl) (au (by exact rfl) (by assumption) (by assumption) (by assumption)) ?_;refine an rfl rfl rfl (by exact rfl) (by exact rfl) (by exact rfl) (au (by exact rfl) (by assumption) (by assumption) (by assumption)) ?_
 refine qC ?_
 refine FW.puD C1 (by apply bB rfl (aO rfl (au (by exact rfl) (by assumption) (by assumption) (by assumption)) (by exact tL _)) rfl;apply af rfl;apply af rfl;apply af rfl;apply af rfl;exact cI) ?_
 skip
 refine qC ?_
 refine FW.puD C2 (by apply af rfl;exact cI) ?_
 clear C1 C2
 refine an rfl rfl rfl (by exact rfl) (by exact rfl) (by exact rfl) (aF (by exact rfl) (by exact rfl) (by with_reducible assumption)) ?_;refine an rfl rfl rfl (by exact rfl) (by exact rfl) (by exact rfl) (kM (by exact rfl) (by exact rfl)) ?_;refine dF ?_;refine y1 ?_;refine br ?_
 refine yX ?_;refine aM ?_;refine br ?_;refine y4 ?_;refine yM ?_;refine y3 ?_;refine aI ?_
 refine dh (fun k e ds h'=>∃t:Nat,t≤24∧24-t=k∧e=[(0, .func (.yield l) #[] #[]),(1, .pointer (some ⟨qa,0,none⟩)),(2, .pointer (some ⟨qb,0,none⟩)),(4, .pointer (some ⟨h.next,0,none⟩)),(28, .int .i64 (t:Nat))]∧ds=[]∧Lk lo h h'∧P ((List.range t).flatMap (jG a b)) h'∧h.next<h'.next∧h'.get h.next=some (.cells (bxL rm) true 1)∧(((∀x,x<h.next→h'.get x=h.get x)∧P ((List.range t).flatMap (jG a b)) h)∨q0∈h'.log∧kN h' q0)∧¬W h' h.next∧((List.range t).flatMap (jG a b)).length≤t*4096)
  ⟨0,Nat.zero_le _,rfl,rfl,rfl,hk1,hP1,by omega,q1,hdm1,hw1,Nat.zero_le _⟩ ?_
 clear hP1 gA1 gB1 q1 hk1 W1 hL1 x1 n1 hdm1 hw1
 rintro k e ds G ⟨t,ht24,rfl,rfl,rfl,hk,hP,hnx,g4,hdm,hwG,hln⟩
 have WG:=hk.wf hr.wf
 by_cases ht:t<24
 ·have hps:=lS b t
  have hbp:=jR (dR b t)
  have D1:=AK F.mp (h:={G with log:=[]}) (.of WG) (show Tab G from htab _ _ hP) (by show 2<G.next;omega) hb ht
  have gB:=gb _ _ hP
  have hT:(List.range (t+1)).flatMap (jG a b)=(List.range t).flatMap (jG a b)++jG a b t:=by rw[List.range_succ,List.flatMap_append];simp
  have hmem:∀f∈jG a b t,f∈dK a b:=fun f hf'=>by
   rw[hf];exact List.mem_flatMap.2 ⟨t,List.mem_range.2 ht,hf'⟩
  rw[hft t]at hT hmem
  generalize(List.range t).flatMap (jG a b)=D at*
  generalize hbb:dy (dR b t)=bb at*
  generalize dR b t=p at*
  obtain⟨bp,some'⟩:=bb
  dsimp only at hbp hT hmem
  have kp8:=aV hps.len
  have lo14:=rW (b:=mb) hps
  have lo14o:=zb (s:=p) (b:=mb)
  refine y4 ?_;refine yt ?_;refine y3 ?_;refine aq ?_;refine yY ?_;refine aM ?_;refine br ?_;refine aq ?_;refine aI ?_;refine y4 ?_;refine yM ?_;refine yM ?_;refine y3 ?_
  refine ff (E0:=[(0, .func (.yield l) #[] #[]),(1, .pointer (some ⟨qa,0,none⟩)),(2, .pointer (some ⟨qb,0,none⟩)),(4, .pointer (some ⟨h.next,0,none⟩)),(6, .int .i64 (t:Nat)),(7, .pointer (some ⟨G.next,0,none⟩)),(28, .int .i64 (t:Nat))]) (P:=fun h'=>Ext G h'∧h'.next=G.next+1∧h'.get G.next=some (.cells (psL p mb) true 1)) ?_ ?_
  ·refine aK ?_;refine aa (au (by exact rfl) (by assumption) (by assumption) (by assumption)) ?_;refine yM ?_
   refine yC ?_
   refine FW.pu D1 ?_
   skip
   refine aa (dN (Bp hps (by exact rfl))) ?_
   refine aa (di) ?_;refine aa (dx (by exact rfl) (by exact rfl) (by(simp(disch:=first|omega|(simp only[z1,z2];omega))only[z3,z4,z5,z6,z7,z1,z2,g4,gB];exact rfl)) (by assumption) (by exact rfl) (by assumption)) ?_;refine eD ?_
   refine y1 ?_
   exact⟨rfl,rfl,rfl,iu (by omega) _ _,rfl,jh _ _⟩
  clear D1
  rintro G1 ⟨x1,n1,q1⟩
  have WG1:=x1.wf WG
  have hP1:P D G1:=Y.eW _ _ _ hP x1.next x1.old
  have D2:=nX F.bd (h:={G1 with log:=[]}) (.of WG1) (show Tab G1 from htab _ _ hP1) (by show 2<G1.next;omega) hps
  rw[hbb]at D2
  unfold F8 at D2
  dsimp only at D2
  have ks:=Jl (b:=mb) hps
  have ku:=D0 (b:=mb) (b':=bp) hps
  have kuc:(Nat.beq (bR (cellsOf (bxV bp))) 6&&Nat.ble (0+8+6) (bR (psL p mb))&&eM (cellsOf (bxV bp)))=true:=by
   rw[bV (psL p mb),lo14];rfl
  refine ff (E0:=[(0, .func (.yield l) #[] #[]),(1, .pointer (some ⟨qa,0,none⟩)),(2, .pointer (some ⟨qb,0,none⟩)),(4, .pointer (some ⟨h.next,0,none⟩)),(6, .int .i64 (t:Nat)),(7, .pointer (some ⟨G.next,0,none⟩)),(28, .int .i64 (t:Nat))]) (P:=fun h'=>Ext G h'∧h'.next=G.next+1∧h'.get G.next=some (.cells (psL p bp) true 1)) ?_ ?_
  ·refine aK ?_;refine yF ?_;refine aa (au (by exact rfl) (by assumption) (by assumption) (by assumption)) ?_
   refine yC ?_
   refine FW.pu D2 ?_
   refine yM ?_;refine yE ?_;refine yE ?_;refine yF ?_
   refine aa (iA (by exact rfl) (by exact rfl) q1 kuc ku) ?_
   refine eD ?_;refine y1 ?_
   exact⟨rfl,rfl,rfl,⟨x1.next,(Heap.aG (by omega)).trans x1.log,fun b hb=>(z5 (by omega)).trans (x1.old b hb),fun w=>(x1.wf w).as (AS.wr h.next _ _ _)⟩,n1,Heap.bC q1⟩
  clear D2 q1 hP1 WG1 n1 x1
  rintro G2 ⟨x2,n2,q2⟩
  have kl:=Dq (b:=bp) hps
  have kh:=Fb (b:=bp) hps
  have cl:Nat.beq (bR (ceL bp.lo)) 3=true:=rfl
  have ch:Nat.beq (bR (ceL bp.hi)) 3=true:=rfl
  refine ff (E0:=[(0, .func (.yield l) #[] #[]),(1, .pointer (some ⟨qa,0,none⟩)),(2, .pointer (some ⟨qb,0,none⟩)),(4, .pointer (some ⟨h.next,0,none⟩)),(6, .int .i64 (t:Nat)),(7, .pointer (some ⟨G.next,0,none⟩)),(8, .pointer (some ⟨G2.next,0,none⟩)),(9, .pointer (some ⟨G2.next+1,0,none⟩)),(28, .int .i64 (t:Nat))]) (P:=fun h'=>Ext G h'∧h'.next=G2.next+2∧h'.get G.next=some (.cells (psL p bp) true 1)∧h'.get G2.next=some (.cells (ceL bp.lo) true 1)∧h'.get (G2.next+1)=some (.cells (ceL bp.hi) true 1)) ?_ ?_
  ·refine cK ?_;refine qF ?_;refine qF ?_;refine an rfl rfl rfl (by exact rfl) (by exact rfl) (by exact rfl) (au (by exact rfl) (by assumption) (by assumption) (by exact rfl)) ?_
   refine qF ?_;refine qF ?_;refine an rfl rfl rfl (by exact rfl) (by exact rfl) (by exact rfl) (au (by exact rfl) (by assumption) (by assumption) (by exact rfl)) ?_
   refine vT rfl rfl rfl (by exact rfl) (by exact rfl) (by exact rfl) di (by refine dI (aO rfl (au (by exact rfl) (by(simp(disch:=first|omega|(simp only[z1,z2];omega))only[z3,z4,z5,z6,z7,z1,z2,g4,gB,q2];exact rfl)) (by assumption) (by exact rfl)) (by refine kA ?_;refine cZ (dQ _ _) ?_;refine cZ (dQ _ _) ?_;exact cZ (dQ _ _) (by assumption))) ?_;refine dI (aO rfl (dg (by exact rfl)) (by exact dB _)) ?_;refine dI (aO rfl (dg (by exact rfl)) (by exact dB _)) ?_;refine dI (aO rfl (au (by exact rfl) (by(simp(disch:=first|omega|(simp only[z1,z2];omega))only[z3,z4,z5,z6,z7,z1,z2,g4,gB,q2];exact rfl)) (by assumption) (by exact rfl)) (by refine kA ?_;refine cZ (dQ _ _) ?_;refine cZ (dQ _ _) ?_;exact cZ (dQ _ _) (by assumption))) ?_;refine dI (aO rfl (dg (by exact rfl)) (by exact dB _)) ?_;refine dI (aO rfl (dg (by exact rfl)) (by exact dB _)) ?_;exact wg) ?_
   refine vT rfl rfl rfl (by exact rfl) (by exact rfl) (by exact rfl) di (by refine dI (BE rfl) ?_;refine dI (aO rfl (au (by exact rfl) (by(simp(disch:=first|omega|(simp only[z1,z2];omega))only[z3,z4,z5,z6,z7,z1,z2,g4,gB,q2];exact rfl)) (by assumption) (by exact rfl)) (by refine kA ?_;refine cZ (dQ _ _) ?_;refine cZ (dQ _ _) ?_;exact cZ (dQ _ _) (by assumption))) ?_;refine dI (aO rfl (dg (by exact rfl)) (by exact dB _)) ?_;refine dI (aO rfl (dg (by exact rfl)) (by exact dB _)) ?_;refine dI (aO rfl (au (by exact rfl) (by(simp(disch:=first|omega|(simp only[z1,z2];omega))only[z3,z4,z5,z6,z7,z1,z2,g4,gB,q2];exact rfl)) (by assumption) (by exact rfl)) (by refine kA ?_;refine cZ (dQ _ _) ?_;refine cZ (dQ _ _) ?_;exact cZ (dQ _ _) (by assumption))) ?_;refine dI (aO rfl (dg (by exact rfl)) (by exact dB _)) ?_;refine dI (aO rfl (dg (by exact rfl)) (by exact dB _)) ?_;exact wg) ?_
   refine j6 rfl rfl rfl (by exact rfl) (by exact rfl) (by exact rfl) (by(simp(disch:=first|omega|(simp only[z1,z2];omega))only[z3,z4,z5,z6,z7,z1,z2,g4,gB,q2];exact rfl)) (by exact rfl) (by exact rfl) (by(simp only[z1,z2];omega)) (by omega) (by apply af rfl;apply af rfl;apply bB rfl (aO rfl (au (by exact rfl) (by(simp(disch:=first|omega|(simp only[z1,z2];omega))only[z3,z4,z5,z6,z7,z1,z2,g4,gB,q2];exact rfl)) (by assumption) (by exact rfl)) (by refine kA ?_;refine cZ (dQ _ _) ?_;refine cZ (dQ _ _) ?_;exact cZ (dQ _ _) (by assumption))) rfl;apply bB rfl (aO rfl (dg (by exact rfl)) (by exact dB _)) rfl;apply bB rfl (aO rfl (dg (by exact rfl)) (by exact dB _)) rfl;apply af rfl;apply af rfl;apply af rfl;exact cI) ?_
   refine j6 rfl rfl rfl (by exact rfl) (by exact rfl) (by exact rfl) (by(simp(disch:=first|omega|(simp only[z1,z2];omega)|(simp only[z1,z2];done)|fail)only[z8,z4,z5,z9,z7,z1,z2,g4,gB,q2];exact rfl)) (by exact rfl) (by exact rfl) (by(simp only[z1,z2];omega)) (by(simp only[z1,z2];omega)) (by apply af rfl;apply af rfl;apply af rfl;exact cI) ?_
   refine dF ?_;refine y1 ?_
   refine⟨rfl,rfl,rfl,⟨by show G.next≤G2.next+2;omega,by rw[Heap.aG (by show h.next≤G2.next+1;omega),Heap.aG (by omega)];exact x2.log,fun b hb=>by
    rw[z5 (by show b≠G2.next+1;omega),z5 (by omega),z4 (by show b<G2.next+1;omega),z4 (by omega)];exact x2.old b hb,fun w=>((((x2.wf w).push _).push _).as (AS.wr _ _ _ _)).as (AS.wr _ _ _ _)⟩,rfl,?_,?_,?_⟩
   ·(simp(disch:=first|omega|(simp only[z1,z2];omega))only[z3,z4,z5,z6,z7,z1,z2,g4,gB,q2];done)
   ·(simp(disch:=first|omega|(simp only[z1,z2];omega))only[z3,z4,z5,z6,z7,z1,z2,g4,gB,q2];exact rfl)
   ·(simp(disch:=first|omega|(simp only[z1,z2];omega)|(simp only[z1,z2];done)|fail)only[z8,z4,z5,z9,z7,z1,z2,g4,gB,q2];exact rfl)
  rintro G3 ⟨x3,n3,q3,q8,q9⟩
  rw[n2]at n3 q8 q9⊢
  have hk3:Lk lo h G3:=hk.trans (x3.lk (by have:=hk.next;omega))
  have hP3:P D G3:=Y.eW _ _ _ hP x3.next x3.old
  have hw3:∀z,W G3 z→W G z:=Y.wst _ _ _ hP x3.next x3.old
  have hw4:∀z,W G z→z<G.next:=fun z=>Y.wlt _ _ z hP
  have FX:FxL P W lo h q0 G.next rm bp p D G3:=⟨hk3,hP3,Eb hq0 hk.next hdm x3,by omega,(x3.old _ hnx).trans g4,q3,q8,q9,fun q=>hwG (hw3 _ q),fun q=>absurd (hw4 _ (hw3 _ q)) (by omega),fun q=>absurd (hw4 _ (hw3 _ q)) (by omega),fun q=>absurd (hw4 _ (hw3 _ q)) (by omega)⟩
  have hqN:N≤G.next:=by have:=hk.next;omega
  have hqh:h.next<G.next:=hnx
  clear q2 x2 n2 q3 q8 q9 hk3 hP3 x3 n3 g4 hnx hP hk gB hw3 hw4 hwG hdm ks ku kuc kp8 lo14 lo14o kl kh cl ch WG
  generalize G.next=q at*
  have hx1:=hrm.lo.x
  have hx2:=hrm.hi.x
  have hy1:=hrm.lo.y
  have hy2:=hrm.hi.y
  have hz1:=hrm.lo.z
  have hz2:=hrm.hi.z
  have px1:=hbp.lo.x
  have px2:=hbp.hi.x
  have py1:=hbp.lo.y
  have py2:=hbp.hi.y
  have pz1:=hbp.lo.z
  have pz2:=hbp.hi.z
  have sz1:aC .sub (.int .i64 rm.lo.z) (.int .i64 bp.lo.z)=some (.int .i64 (rm.lo.z-bp.lo.z)):=jB (bL (by omega) (by omega))
  have sz2:aC .sub (.int .i64 rm.hi.z) (.int .i64 bp.hi.z)=some (.int .i64 (rm.hi.z-bp.hi.z)):=jB (bL (by omega) (by omega))
  have sy1:aC .sub (.int .i64 rm.lo.y) (.int .i64 bp.lo.y)=some (.int .i64 (rm.lo.y-bp.lo.y)):=jB (bL (by omega) (by omega))
  have sy2:aC .sub (.int .i64 rm.hi.y) (.int .i64 bp.hi.y)=some (.int .i64 (rm.hi.y-bp.hi.y)):=jB (bL (by omega) (by omega))
  have sx1:aC .sub (.int .i64 rm.lo.x) (.int .i64 bp.lo.x)=some (.int .i64 (rm.lo.x-bp.lo.x)):=jB (bL (by omega) (by omega))
  have sx2:aC .sub (.int .i64 rm.hi.x) (.int .i64 bp.hi.x)=some (.int .i64 (rm.hi.x-bp.hi.x)):=jB (bL (by omega) (by omega))
  have q4:=FX.g4
  have q8:=FX.g8
  refine y4 ?_;refine yF ?_;refine yF ?_;refine yL ?_;refine yF ?_;refine yL ?_;refine aa (aF (by exact rfl) (by exact rfl) (by with_reducible assumption)) ?_
  refine yM ?_;refine y3 ?_;refine aI ?_
  refine dh (fun k e ds h'=>∃(n:Nat) (z:Int),z=rm.lo.z-bp.lo.z+(n:Nat)∧(n=0∨z≤rm.hi.z-bp.hi.z+1)∧16-n=k∧e=[(0, .func (.yield l) #[] #[]),(1, .pointer (some ⟨qa,0,none⟩)),(2, .pointer (some ⟨qb,0,none⟩)),(4, .pointer (some ⟨h.next,0,none⟩)),(6, .int .i64 (t:Nat)),(7, .pointer (some ⟨q,0,none⟩)),(8, .pointer (some ⟨q+1,0,none⟩)),(9, .pointer (some ⟨q+1+1,0,none⟩)),(10, .int .i64 z),(28, .int .i64 (t:Nat))]∧ds=[]∧FxL P W lo h q0 q rm bp p (D++(zrN (rm.lo.z-bp.lo.z) n).flatMap (nA a p rm bp t)) h'∧(D++(zrN (rm.lo.z-bp.lo.z) n).flatMap (nA a p rm bp t)).length≤t*4096+n*256)
   ⟨0,_,by simp, .inl rfl,rfl,rfl,rfl,by rw[show zrN (rm.lo.z-bp.lo.z) 0=[]from rfl,List.flatMap_nil,List.append_nil];exact FX,by rw[show zrN (rm.lo.z-bp.lo.z) 0=[]from rfl,List.flatMap_nil,List.append_nil];exact Nat.le_trans hln (by omega)⟩ ?_
  clear FX q4 q8
  rintro k e ds G ⟨n,z,hz,hn,rfl,rfl,rfl,FX,hlz⟩
  have hn16:n<16:=by omega
  by_cases hle:z≤rm.hi.z-bp.hi.z
  ·have lz:aC .leq (.int .i64 z) (.int .i64 (rm.hi.z-bp.hi.z))=some (.bool true):=kZ hle
   have az:aC .add (.int .i64 z) (.int .i64 1)=some (.int .i64 (z+1)):=lM (bL (by omega) (by omega))
   have mz:=oJ hz hle
   have fz:=lV (rm.lo.z-bp.lo.z) n (nA a p rm bp t) hz
   have hfy:nA a p rm bp t z=(zr (rm.lo.y-bp.lo.y) (rm.hi.y-bp.hi.y)).flatMap (kQ a p rm bp t z):=rfl
   have q4:=FX.g4
   have q8:=FX.g8
   have q9:=FX.g9
   generalize hDz:D++(zrN (rm.lo.z-bp.lo.z) n).flatMap (nA a p rm bp t)=Dz at*
   refine aq ?_;refine y4 ?_;refine yM ?_;refine yF ?_;refine yF ?_;refine yL ?_;refine yF ?_;refine yL ?_
   refine aa (aF (by exact rfl) (by exact rfl) (by with_reducible assumption)) ?_;refine aa (aF (by exact rfl) (by exact rfl) (by with_reducible assumption)) ?_;refine y3 ?_;refine yY ?_;refine aM ?_;refine br ?_;refine aq ?_
   refine aI ?_;refine y4 ?_;refine yF ?_;refine yF ?_;refine yL ?_;refine yF ?_;refine yL ?_
   refine aa (aF (by exact rfl) (by exact rfl) (by with_reducible assumption)) ?_;refine yM ?_;refine y3 ?_;refine aI ?_
   refine dh (fun k e ds h'=>∃(j:Nat) (y:Int),y=rm.lo.y-bp.lo.y+(j:Nat)∧(j=0∨y≤rm.hi.y-bp.hi.y+1)∧16-j=k∧e=[(0, .func (.yield l) #[] #[]),(1, .pointer (some ⟨qa,0,none⟩)),(2, .pointer (some ⟨qb,0,none⟩)),(4, .pointer (some ⟨h.next,0,none⟩)),(6, .int .i64 (t:Nat)),(7, .pointer (some ⟨q,0,none⟩)),(8, .pointer (some ⟨q+1,0,none⟩)),(9, .pointer (some ⟨q+1+1,0,none⟩)),(10, .int .i64 z),(11, .int .i64 y),(28, .int .i64 (t:Nat))]∧ds=[]∧FxL P W lo h q0 q rm bp p (Dz++(zrN (rm.lo.y-bp.lo.y) j).flatMap (kQ a p rm bp t z)) h'∧(Dz++(zrN (rm.lo.y-bp.lo.y) j).flatMap (kQ a p rm bp t z)).length≤t*4096+n*256+j*16)
    ⟨0,_,by simp, .inl rfl,rfl,rfl,rfl,by rw[show zrN (rm.lo.y-bp.lo.y) 0=[]from rfl,List.flatMap_nil,List.append_nil];exact FX,by rw[show zrN (rm.lo.y-bp.lo.y) 0=[]from rfl,List.flatMap_nil,List.append_nil];exact Nat.le_trans hlz (by omega)⟩ ?_
   clear FX q4 q8 q9
   rintro k e ds G ⟨j,y,hy,hj,rfl,rfl,rfl,FX,hly⟩
   have hj16:j<16:=by omega
   have q4:=FX.g4
   have q8:=FX.g8
   have q9:=FX.g9
   by_cases hley:y≤rm.hi.y-bp.hi.y
   ·have ly:aC .leq (.int .i64 y) (.int .i64 (rm.hi.y-bp.hi.y))=some (.bool true):=kZ hley
    have ay:aC .add (.int .i64 y) (.int .i64 1)=some (.int .i64 (y+1)):=lM (bL (by omega) (by omega))
    have my:=oJ hy hley
    have fy:=lV (rm.lo.y-bp.lo.y) j (kQ a p rm bp t z) hy
    have hfx:kQ a p rm bp t z y=(zr (rm.lo.x-bp.lo.x) (rm.hi.x-bp.hi.x)).flatMap (mC a p bp t z y):=rfl
    generalize hDy:Dz++(zrN (rm.lo.y-bp.lo.y) j).flatMap (kQ a p rm bp t z)=Dy at*
    refine aq ?_;refine y4 ?_;refine yM ?_;refine yF ?_;refine yF ?_;refine yL ?_;refine yF ?_;refine yL ?_
    refine aa (aF (by exact rfl) (by exact rfl) (by with_reducible assumption)) ?_;refine aa (aF (by exact rfl) (by exact rfl) (by with_reducible assumption)) ?_;refine y3 ?_;refine yY ?_;refine aM ?_;refine br ?_;refine aq ?_
    refine aI ?_;refine y4 ?_;refine yF ?_;refine yF ?_;refine yL ?_;refine yF ?_;refine yL ?_
    refine aa (aF (by exact rfl) (by exact rfl) (by with_reducible assumption)) ?_;refine yM ?_;refine y3 ?_;refine aI ?_
    refine dh (fun k e ds h'=>∃(i:Nat) (x:Int),x=rm.lo.x-bp.lo.x+(i:Nat)∧(i=0∨x≤rm.hi.x-bp.hi.x+1)∧16-i=k∧e=[(0, .func (.yield l) #[] #[]),(1, .pointer (some ⟨qa,0,none⟩)),(2, .pointer (some ⟨qb,0,none⟩)),(4, .pointer (some ⟨h.next,0,none⟩)),(6, .int .i64 (t:Nat)),(7, .pointer (some ⟨q,0,none⟩)),(8, .pointer (some ⟨q+1,0,none⟩)),(9, .pointer (some ⟨q+1+1,0,none⟩)),(10, .int .i64 z),(11, .int .i64 y),(12, .int .i64 x),(28, .int .i64 (t:Nat))]∧ds=[]∧FxL P W lo h q0 q rm bp p (Dy++(zrN (rm.lo.x-bp.lo.x) i).flatMap (mC a p bp t z y)) h'∧(Dy++(zrN (rm.lo.x-bp.lo.x) i).flatMap (mC a p bp t z y)).length≤t*4096+n*256+j*16+i)
     ⟨0,_,by simp, .inl rfl,rfl,rfl,rfl,by rw[show zrN (rm.lo.x-bp.lo.x) 0=[]from rfl,List.flatMap_nil,List.append_nil];exact FX,by rw[show zrN (rm.lo.x-bp.lo.x) 0=[]from rfl,List.flatMap_nil,List.append_nil];exact Nat.le_trans hly (by omega)⟩ ?_
    clear FX q4 q8 q9
    rintro k e ds G ⟨i,x,hx,hi,rfl,rfl,rfl,FX,hlx⟩
    have hi16:i<16:=by omega
    have q4:=FX.g4
    have q9:=FX.g9
    by_cases hlex:x≤rm.hi.x-bp.hi.x
    ·have lx:aC .leq (.int .i64 x) (.int .i64 (rm.hi.x-bp.hi.x))=some (.bool true):=kZ hlex
     have ax:aC .add (.int .i64 x) (.int .i64 1)=some (.int .i64 (x+1)):=lM (bL (by omega) (by omega))
     have mx':=oJ hx hlex
     have fx:=lV (rm.lo.x-bp.lo.x) i (mC a p bp t z y) hx
     have WG:=FX.k.wf hr.wf
     have hnG:=FX.k.next
     have hnq:=FX.nx
     have q7:=FX.g7
     have ka:=Bu (b:=bp) hps
     have kl:=yJ (b:=bp) hps
     have C3:=vq F.li (h:={G with log:=[]}) (.of WG) hps (b:=bp) (x:=x) (y:=y) (z:=z) (by omega) (by omega) (by omega) pz1 pz2 (by omega) (by omega)
     have hls:IsS (gV p bp x y z):=jy hps _ _ _ _
     have htry:mC a p bp t z y x=if sIn (gV p bp x y z) a then [⟨t,x,y,z,gV p bp x y z⟩]else []:=rfl
     have hmm:sIn (gV p bp x y z) a=true→(⟨t,x,y,z,gV p bp x y z⟩:Fi)∈dK a b:=fun hin=>by
      refine hmem _ (List.mem_flatMap.2 ⟨z,mz,List.mem_flatMap.2 ⟨y,my,List.mem_flatMap.2 ⟨x,mx',?_⟩⟩⟩)
      rw[htry,if_pos hin];exact List.mem_singleton.2 rfl
     generalize hDx:Dy++(zrN (rm.lo.x-bp.lo.x) i).flatMap (mC a p bp t z y)=Dx at*
     generalize gV p bp x y z=ls at*
     have kls:=bE hls.len
     have kll:=aV hls.len
     have klo:=dH ls
     have klen:(us ls).length=8:=by rw[aJ,hls.len]
     refine aq ?_;refine y4 ?_;refine yM ?_;refine yF ?_;refine yF ?_;refine yL ?_;refine yF ?_;refine yL ?_
     refine aa (aF (by exact rfl) (by exact rfl) (by with_reducible assumption)) ?_;refine aa (aF (by exact rfl) (by exact rfl) (by with_reducible assumption)) ?_;refine y3 ?_;refine yY ?_;refine aM ?_;refine br ?_;refine aq ?_
     refine aI ?_
     refine ff (E0:=[(0, .func (.yield l) #[] #[]),(1, .pointer (some ⟨qa,0,none⟩)),(2, .pointer (some ⟨qb,0,none⟩)),(4, .pointer (some ⟨h.next,0,none⟩)),(6, .int .i64 (t:Nat)),(7, .pointer (some ⟨q,0,none⟩)),(8, .pointer (some ⟨q+1,0,none⟩)),(9, .pointer (some ⟨q+1+1,0,none⟩)),(10, .int .i64 z),(11, .int .i64 y),(12, .int .i64 x),(13, .pointer (some ⟨G.next,0,none⟩)),(28, .int .i64 (t:Nat))]) (P:=fun h'=>Ext G h'∧h'.next=G.next+1∧h'.get G.next=some (.cells (us ls) true 1)) ?_ ?_
     ·refine aK ?_;refine aa (au (by exact rfl) (by assumption) (by assumption) (by assumption)) ?_;refine yM ?_;refine yM ?_;refine yM ?_
      refine yC ?_
      refine FW.pu C3 ?_
      refine aa (di) ?_;refine aa (dx (by exact rfl) (by exact rfl) (by(simp(disch:=first|omega|(simp only[z1,z2];omega))only[z3,z4,z5,z6,z7,z1,z2,q4,q9,q7];exact rfl)) (by assumption) (by exact rfl) (by exact dH _)) ?_;refine eD ?_
      refine y1 ?_
      exact⟨rfl,rfl,rfl,iu (by omega) _ _,rfl,jh _ _⟩
     clear C3 q4 q9 q7
     rintro G' ⟨x',n',g13⟩
     have FX':=FX.ext Y x' (by omega) hq0 hqh
     have hP':=FX'.pd
     have WG':=x'.wf WG
     have gA:=ga _ _ hP'
     have C4:=vY hp F.f35 F.f121 (h:={G' with log:=[]}) (.of WG') hls ha
     refine y4 ?_;refine aa (au (by exact rfl) (by assumption) (by assumption) (by assumption)) ?_;refine aa (au (by exact rfl) (by assumption) (by assumption) (by assumption)) ?_
     refine yC ?_
     refine FW.pu C4 ?_
     clear C4
     cases hin:sIn ls a with
     |false=>
      rw[hin,if_neg (by simp)]at htry
      refine yM ?_;refine yP ?_;refine yP ?_;refine yP ?_;refine yP ?_;refine yP ?_;refine yP ?_;refine yP ?_
      refine yP ?_;refine yP ?_;refine yU ?_;refine y3 ?_;refine yX ?_;refine aM ?_;refine fI ?_;refine br ?_;refine aK ?_
      refine yM ?_;refine aa (aF (by exact rfl) (by exact rfl) (by with_reducible assumption)) ?_;refine yM ?_;refine y3 ?_
      refine⟨16-(i+1),by omega,i+1,x+1,by omega, .inr (by omega),rfl,rfl,rfl,?_,?_⟩
      ·rw[fx,htry,List.append_nil,hDx];exact FX'
      ·rw[fx,htry,List.append_nil,hDx];omega
     |true=>
      rw[hin,if_pos rfl]at htry
      refine yM ?_;refine yO ?_;refine yM ?_;refine yO ?_;refine yM ?_;refine yO ?_;refine yM ?_;refine yO ?_;refine yM ?_;refine yO ?_
      refine yM ?_;refine yO ?_;refine aa (dN (by exact rfl)) ?_;refine yO ?_;refine aa (au (by exact rfl) (by assumption) (by assumption) (by assumption)) ?_;refine yO ?_
      refine og (fn:= .yield l) (args:=fiV ⟨t,x,y,z,ls⟩) (by rfl) ?_
      refine Y.call hp (hmm hin) (by omega) WG' (by omega) (by omega) hq0 hP' ?_
      intro h2 hk2 hd2 hP2 hkp hwr
      refine yO ?_;refine yA ?_;refine yT ?_;refine y3 ?_;refine yX ?_;refine aM ?_;refine fI ?_;refine br ?_;refine aK ?_
      refine yM ?_;refine aa (aF (by exact rfl) (by exact rfl) (by with_reducible assumption)) ?_;refine yM ?_;refine y3 ?_
      refine⟨16-(i+1),by omega,i+1,x+1,by omega, .inr (by omega),rfl,rfl,rfl,?_,?_⟩
      ·rw[fx,htry,←List.append_assoc,hDx]
       exact FX'.step hk2 hd2 hP2 hkp hwr hqh
      ·rw[fx,htry,←List.append_assoc,hDx]
       have:=CD (L:=([]:List Nat)) hlx (f:=⟨t,x,y,z,ls⟩)
       omega
    ·have lx:aC .leq (.int .i64 x) (.int .i64 (rm.hi.x-bp.hi.x))=some (.bool false):=kX (by omega)
     have hie:=nZ (lo:=rm.lo.x-bp.lo.x) (hi:=rm.hi.x-bp.hi.x) (n:=i) (by omega) (by omega)
     have e:(zrN (rm.lo.x-bp.lo.x) i).flatMap (mC a p bp t z y)=kQ a p rm bp t z y:=by rw[hie];rfl
     rw[e]at FX hlx
     refine aq ?_;refine y4 ?_;refine yM ?_;refine yF ?_;refine yF ?_;refine yL ?_;refine yF ?_;refine yL ?_
     refine aa (aF (by exact rfl) (by exact rfl) (by with_reducible assumption)) ?_;refine aa (aF (by exact rfl) (by exact rfl) (by with_reducible assumption)) ?_;refine y3 ?_;refine yX ?_;refine cU ?_;refine dU ?_;refine dU ?_
     refine iw ?_;refine fI ?_;refine br ?_;refine aK ?_;refine yM ?_;refine aa (aF (by exact rfl) (by exact rfl) (by with_reducible assumption)) ?_;refine yM ?_;refine y3 ?_
     refine⟨16-(j+1),by omega,j+1,y+1,by omega, .inr (by omega),rfl,rfl,rfl,?_,?_⟩
     ·rw[fy,←List.append_assoc,hDy];exact FX
     ·rw[fy,←List.append_assoc,hDy];omega
   ·have ly:aC .leq (.int .i64 y) (.int .i64 (rm.hi.y-bp.hi.y))=some (.bool false):=kX (by omega)
    have hje:=nZ (lo:=rm.lo.y-bp.lo.y) (hi:=rm.hi.y-bp.hi.y) (n:=j) (by omega) (by omega)
    refine aq ?_;refine y4 ?_;refine yM ?_;refine yF ?_;refine yF ?_;refine yL ?_;refine yF ?_;refine yL ?_
    refine aa (aF (by exact rfl) (by exact rfl) (by with_reducible assumption)) ?_;refine aa (aF (by exact rfl) (by exact rfl) (by with_reducible assumption)) ?_;refine y3 ?_;refine yX ?_;refine cU ?_;refine dU ?_;refine dU ?_
    refine iw ?_;refine fI ?_;refine br ?_;refine aK ?_;refine yM ?_;refine aa (aF (by exact rfl) (by exact rfl) (by with_reducible assumption)) ?_;refine yM ?_;refine y3 ?_
    refine⟨16-(n+1),by omega,n+1,z+1,by omega, .inr (by omega),rfl,rfl,rfl,?_⟩
    rw[fz,←List.append_assoc]
    have e:(zrN (rm.lo.y-bp.lo.y) j).flatMap (kQ a p rm bp t z)=nA a p rm bp t z:=by rw[hje];rfl
    rw[e]at FX hly
    rw[hDz];exact⟨FX,by omega⟩
  ·have lz:aC .leq (.int .i64 z) (.int .i64 (rm.hi.z-bp.hi.z))=some (.bool false):=kX (by omega)
   have hne:=nZ (lo:=rm.lo.z-bp.lo.z) (hi:=rm.hi.z-bp.hi.z) (n:=n) (by omega) (by omega)
   have q4:=FX.g4
   have q9:=FX.g9
   refine aq ?_;refine y4 ?_;refine yM ?_;refine yF ?_;refine yF ?_;refine yL ?_;refine yF ?_;refine yL ?_
   refine aa (aF (by exact rfl) (by exact rfl) (by with_reducible assumption)) ?_;refine aa (aF (by exact rfl) (by exact rfl) (by with_reducible assumption)) ?_;refine y3 ?_;refine yX ?_;refine cU ?_;refine dU ?_;refine dU ?_
   refine iw ?_;refine fI ?_;refine br ?_;refine aK ?_;refine iI ?_;refine yM ?_;refine y3 ?_
   rw[hne]at FX hlz
   have FXT:FxL P W lo h q0 q rm bp p ((List.range (t+1)).flatMap (jG a b)) G:=by rw[hT];exact FX
   have hlT:((List.range (t+1)).flatMap (jG a b)).length≤(t+1)*4096:=by
    rw[hT]
    exact Nat.le_trans hlz (by omega)
   exact⟨24-(t+1),by omega,t+1,by omega,rfl,rfl,rfl,FXT.k,FXT.pd,by have:=FXT.nx;omega,FXT.g4,FXT.dm,FXT.w4,hlT⟩
 ·obtain rfl:t=24:=by omega
  rw[←hf]at hP hdm
  refine y4 ?_;refine yf ?_;refine y3 ?_;refine aq ?_;refine yX ?_;refine cU ?_;refine dU ?_;refine dU ?_;refine iw ?_
  exact E9 (hk.log (by rw[hr.log];exact eE.nil _)) rfl ⟨rfl,hP,hdm⟩
end Go.A.Pk
end
section
set_option maxRecDepth 100000
namespace Go.A.Pk
variable {T:Nat→Option ak}
def vK(a b:Nat):Int:=if a<b then -1 else if b<a then 1 else 0
def cmpL:List Nat→List Nat→Int
 |a::l,b::m=>if a<b then -1 else if b<a then 1 else cmpL l m
 |_,_=>0
theorem nQ:∀l:List Nat,cmpL l l=0
 |[]=>rfl
 |a::l=>by
  unfold cmpL
  rw[if_neg (Nat.lt_irrefl a),if_neg (Nat.lt_irrefl a)];exact nQ l
theorem AM:∀{l m:List Nat} {j x y:Nat},l.take j=m.take j→l[j]? =some x→m[j]? =some y→x≠y→cmpL l m=vK x y
 |[],_,j,x,y,_,h,_,_=>by simp at h
 |_::_,[],j,x,y,_,_,h,_=>by simp at h
 |a::l,b::m,0,x,y,_,h1,h2,h=>by
  simp at h1 h2
  subst h1;subst h2
  unfold cmpL vK
  by_cases q:a<b
  ·rw[if_pos q,if_pos q]
  ·rw[if_neg q,if_neg q,if_pos (by omega),if_pos (by omega)]
 |a::l,b::m,j+1,x,y,ht,h1,h2,h=>by
  simp only[List.take_succ_cons,List.cons.injEq]at ht
  obtain⟨rfl,ht⟩:=ht
  unfold cmpL
  rw[if_neg (Nat.lt_irrefl a),if_neg (Nat.lt_irrefl a)]
  exact AM ht (by simpa using h1) (by simpa using h2) h
structure uY (T:Nat→Option ak):Prop where
 p:bA T
 f191:T 191=some f191
 f256:T 256=some f256
 f315:T 315=some f315
theorem Fv(F:uY T){h:Heap}(hr:Rdy h)(x:Nat):Pu T 315 [.int .u64 (x:Nat)] h (.bool false):=by
 refine .of F.p F.f315 hr rfl ?_
 have m1:aC .neq (.int .u64 (x:Nat)) (.int .u64 (x:Nat))=some (.bool false):=by rw[BC];simp
 refine y4 ?_;refine yM ?_;refine y3 ?_;refine y4 ?_;refine yM ?_;refine yM ?_
 refine aa (aF (by exact rfl) (by exact rfl) (by with_reducible assumption)) ?_;refine yM ?_;refine y3 ?_;refine aP ?_
 exact aH hr.log rfl rfl
theorem J4(F:uY T){h:Heap}(hr:Rdy h)(a b:Nat):Pu T 256 [.int .u64 (a:Nat), .int .u64 (b:Nat)] h (.int .i64 (vK a b)):=by
 refine .of F.p F.f256 hr rfl ?_
 have C1:=Fv F (h:={h with log:=[]}) (.of hr.wf) a
 have C2:=Fv F (h:={h with log:=[]}) (.of hr.wf) b
 have hL:=hr.log
 unfold vK
 by_cases h1:a<b
 ·rw[if_pos h1]
  have m1:aC .lss (.int .u64 (a:Nat)) (.int .u64 (b:Nat))=some (.bool true):=j7 (by omega)
  refine y4 ?_;refine yM ?_;refine y3 ?_;refine y4 ?_;refine yM ?_
  refine yC ?_
  refine FW.pu C1 ?_
  refine yM ?_;refine y3 ?_;refine y4 ?_;refine yM ?_
  refine yC ?_
  refine FW.pu C2 ?_
  refine yM ?_;refine y3 ?_;refine aq ?_;refine y4 ?_;refine yM ?_;refine y3 ?_;refine yX ?_;refine aM ?_;refine br ?_;refine aq ?_;refine y4 ?_;refine yM ?_;refine y3 ?_;refine yX ?_;refine aM ?_;refine br ?_
  refine aq ?_;refine y4 ?_;refine yM ?_;refine yM ?_;refine aa (aF (by exact rfl) (by exact rfl) (by with_reducible assumption)) ?_;refine y3 ?_;refine yY ?_
  refine y4 ?_;refine yM ?_;refine y3 ?_;refine aP ?_;refine eO ?_
  exact aH hL rfl rfl
 ·rw[if_neg h1]
  have m1:aC .lss (.int .u64 (a:Nat)) (.int .u64 (b:Nat))=some (.bool false):=kT (by omega)
  by_cases h2:b<a
  ·rw[if_pos h2]
   have m2:aC .gtr (.int .u64 (a:Nat)) (.int .u64 (b:Nat))=some (.bool true):=oI (by omega)
   refine y4 ?_;refine yM ?_;refine y3 ?_;refine y4 ?_;refine yM ?_
   refine yC ?_
   refine FW.pu C1 ?_
   refine yM ?_;refine y3 ?_;refine y4 ?_;refine yM ?_
   refine yC ?_
   refine FW.pu C2 ?_
   refine yM ?_;refine y3 ?_;refine aq ?_;refine y4 ?_;refine yM ?_;refine y3 ?_;refine yX ?_;refine aM ?_;refine br ?_;refine aq ?_;refine y4 ?_;refine yM ?_;refine y3 ?_;refine yX ?_;refine aM ?_;refine br ?_
   refine aq ?_;refine y4 ?_;refine yM ?_;refine yM ?_;refine aa (aF (by exact rfl) (by exact rfl) (by with_reducible assumption)) ?_;refine y3 ?_;refine yX ?_
   refine aM ?_;refine br ?_;refine aq ?_;refine y4 ?_;refine yM ?_;refine yM ?_;refine aa (aF (by exact rfl) (by exact rfl) (by with_reducible assumption)) ?_;refine y3 ?_
   refine yY ?_;refine y4 ?_;refine yM ?_;refine y3 ?_;refine aP ?_;refine eO ?_
   exact aH hL rfl rfl
  ·rw[if_neg h2]
   have m2:aC .gtr (.int .u64 (a:Nat)) (.int .u64 (b:Nat))=some (.bool false):=nh (by omega)
   refine y4 ?_;refine yM ?_;refine y3 ?_;refine y4 ?_;refine yM ?_
   refine yC ?_
   refine FW.pu C1 ?_
   refine yM ?_;refine y3 ?_;refine y4 ?_;refine yM ?_
   refine yC ?_
   refine FW.pu C2 ?_
   refine yM ?_;refine y3 ?_;refine aq ?_;refine y4 ?_;refine yM ?_;refine y3 ?_;refine yX ?_;refine aM ?_;refine br ?_;refine aq ?_;refine y4 ?_;refine yM ?_;refine y3 ?_;refine yX ?_;refine aM ?_;refine br ?_
   refine aq ?_;refine y4 ?_;refine yM ?_;refine yM ?_;refine aa (aF (by exact rfl) (by exact rfl) (by with_reducible assumption)) ?_;refine y3 ?_;refine yX ?_
   refine aM ?_;refine br ?_;refine aq ?_;refine y4 ?_;refine yM ?_;refine yM ?_;refine aa (aF (by exact rfl) (by exact rfl) (by with_reducible assumption)) ?_;refine y3 ?_
   refine yX ?_;refine aM ?_;refine br ?_;refine y4 ?_;refine yM ?_;refine y3 ?_;refine aP ?_
   exact aH hL rfl rfl
set_option maxHeartbeats 4000000 in
theorem sY(F:uY T){h:Heap}(hr:Rdy h){p q c c2:Nat}{a b:List Nat}(ha:IsS a)(hb:IsS b)(ga:h.get p=some (.cells (us a) true 1))(gb:h.get q=some (.cells (us b) true 1)):
 Pu T 191 [.slice (some ⟨p,0,none⟩) 8 c, .slice (some ⟨q,0,none⟩) 8 c2] h (.int .i64 (cmpL a b)):=by
 refine .of F.p F.f191 hr rfl ?_
 have hL:=hr.log
 refine y4 ?_;refine yM ?_;refine y3 ?_;refine aq ?_;refine y4 ?_;refine yM ?_;refine yD ?_;refine yM ?_
 refine y3 ?_;refine aI ?_
 refine dh (fun m e ds h'=>∃j:Nat,j≤8∧8-j=m∧e=[(0, .slice (some ⟨p,0,none⟩) 8 c),(1, .slice (some ⟨q,0,none⟩) 8 c2),(9, .slice (some ⟨p,0,none⟩) 8 c),(10, .int .i64 8),(11, .int .i64 (j:Nat))]∧ds=[]∧h=h'∧a.take j=b.take j)
  ⟨0,Nat.zero_le _,rfl,rfl,rfl,rfl,rfl⟩ ?_
 rintro m e ds h' ⟨j,hj,rfl,rfl,rfl,rfl,heq⟩
 by_cases hlt:j<8
 ·obtain⟨x,hx⟩:∃x,a[j]? =some x:=⟨a[j]'(by rw[ha.len];exact hlt),List.getElem?_eq_getElem _⟩
  obtain⟨y,hy⟩:∃x,b[j]? =some x:=⟨b[j]'(by rw[hb.len];exact hlt),List.getElem?_eq_getElem _⟩
  have e1:=iP hx
  have e2:=iP hy
  have C:=J4 F (h:={h with log:=[]}) (.of hr.wf) x y
  have m1:aC .lss (.int .i64 (j:Nat)) (.int .i64 8)=some (.bool true):=j7 (by omega)
  have m2:aC .geq (.int .i64 (j:Nat)) (.int .i64 8)=some (.bool false):=Ai (by omega)
  by_cases hxy:x=y
  ·have e3:vK x y=0:=by subst hxy;unfold vK;rw[if_neg (Nat.lt_irrefl x),if_neg (Nat.lt_irrefl x)]
   rw[e3]at C
   have m3:aC .neq (.int .i64 0) (.int .i64 0)=some (.bool false):=rfl
   refine y4 ?_;refine aa (aF (by exact rfl) (by exact rfl) (by with_reducible assumption)) ?_;refine y3 ?_;refine aq ?_;refine yY ?_;refine aM ?_;refine br ?_;refine aq ?_;refine aI ?_
   refine y4 ?_;refine yM ?_;refine aa (cM (by exact rfl) (by exact rfl) (by omega)) ?_;refine aa (dz (by exact rfl) (by assumption) (by assumption)) ?_;refine yM ?_;refine yM ?_;refine y3 ?_;refine aq ?_;refine y4 ?_;refine yM ?_;refine yM ?_;refine yD ?_;refine yf ?_;refine y3 ?_;refine yX ?_;refine aM ?_;refine br ?_;refine y4 ?_;refine yM ?_;refine yM ?_;refine aa (cM (by exact rfl) (by exact rfl) (by omega)) ?_
   refine aa (dz (by exact rfl) (by assumption) (by assumption)) ?_;refine yM ?_;refine y3 ?_;refine y4 ?_;refine yM ?_;refine yM ?_
   refine yC ?_
   refine FW.pu C ?_
   refine yM ?_;refine y3 ?_;refine y4 ?_;refine yM ?_;refine aa (aF (by exact rfl) (by exact rfl) (by with_reducible assumption)) ?_;refine y3 ?_;refine yX ?_;refine aM ?_;refine fI ?_;refine br ?_;refine aK ?_;refine iI ?_;refine yM ?_;refine y3 ?_
   refine⟨8-(j+1),by omega,j+1,by omega,rfl,rfl,rfl,rfl,?_⟩
   rw[List.take_add_one,List.take_add_one,heq,hx,hy,hxy]
  ·have e3:vK x y≠0:=by
    unfold vK
    split
    ·decide
    ·rw[if_pos (by omega)];decide
   have e4:=AM heq hx hy hxy
   have m3:aC .neq (.int .i64 (vK x y)) (.int .i64 0)=some (.bool true):=Az e3
   rw[e4]
   refine y4 ?_;refine aa (aF (by exact rfl) (by exact rfl) (by with_reducible assumption)) ?_;refine y3 ?_;refine aq ?_;refine yY ?_;refine aM ?_;refine br ?_;refine aq ?_;refine aI ?_
   refine y4 ?_;refine yM ?_;refine aa (cM (by exact rfl) (by exact rfl) (by omega)) ?_;refine aa (dz (by exact rfl) (by assumption) (by assumption)) ?_;refine yM ?_;refine yM ?_;refine y3 ?_;refine aq ?_;refine y4 ?_;refine yM ?_;refine yM ?_;refine yD ?_;refine yf ?_;refine y3 ?_;refine yX ?_;refine aM ?_;refine br ?_;refine y4 ?_;refine yM ?_;refine yM ?_;refine aa (cM (by exact rfl) (by exact rfl) (by omega)) ?_
   refine aa (dz (by exact rfl) (by assumption) (by assumption)) ?_;refine yM ?_;refine y3 ?_;refine y4 ?_;refine yM ?_;refine yM ?_
   refine yC ?_
   refine FW.pu C ?_
   refine yM ?_;refine y3 ?_;refine y4 ?_;refine yM ?_;refine aa (aF (by exact rfl) (by exact rfl) (by with_reducible assumption)) ?_;refine y3 ?_;refine yY ?_;refine y4 ?_;refine yM ?_;refine yM ?_;refine y3 ?_;refine aP ?_;refine kH ?_;refine eO ?_;refine eO ?_;refine kH ?_;refine eO ?_
   exact aH hL rfl rfl
 ·obtain rfl:j=8:=by omega
  have hab:a=b:=by
   rw[List.take_of_length_le (by rw[ha.len];omega),List.take_of_length_le (by rw[hb.len];omega)]at heq
   exact heq
  rw[hab,nQ]
  have m1:aC .lss (.int .i64 ((8:Nat):Int)) (.int .i64 8)=some (.bool false):=rfl
  refine y4 ?_;refine aa (aF (by exact rfl) (by exact rfl) (by with_reducible assumption)) ?_;refine y3 ?_;refine aq ?_;refine yX ?_;refine cU ?_;refine dU ?_;refine dU ?_;refine iw ?_;refine br ?_
  refine aq ?_;refine y4 ?_;refine yM ?_;refine yD ?_;refine yM ?_;refine yD ?_;refine yf ?_;refine y3 ?_;refine yX ?_;refine aM ?_;refine br ?_;refine y4 ?_;refine yM ?_;refine y3 ?_
  refine aP ?_
  exact aH hL rfl rfl
theorem Il(F:uY T)(hf:T 168=some f168){h:Heap}(hr:Rdy h){a b:List Nat}(ha:IsS a)(hb:IsS b):Pu T 168 [sv a,sv b] h (.int .i64 (cmpL a b)):=by
 refine .of F.p hf hr rfl ?_
 have x0:Ext h ((h.push (.cells (cellsOf (sv a)) true 1)).push (.cells (cellsOf (sv b)) true 1)):=((Ext.refl h).push _).push _
 have g0:((h.push (.cells (cellsOf (sv a)) true 1)).push (.cells (cellsOf (sv b)) true 1)).get h.next=some (.cells (us a) true 1):=by(simp(disch:=first|omega|(simp only[z1,z2];omega))only[z3,z4,z5,z6,z7,z1,z2];exact rfl)
 have g1:((h.push (.cells (cellsOf (sv a)) true 1)).push (.cells (cellsOf (sv b)) true 1)).get (h.next+1)=some (.cells (us b) true 1):=by(simp(disch:=first|omega|(simp only[z1,z2];omega)|(simp only[z1,z2];done)|fail)only[z8,z4,z5,z9,z7,z1,z2,g0];exact rfl)
 refine y4 ?_;refine yB ?_;refine yB ?_;refine yM ?_;refine y3 ?_
 generalize((h.push (.cells (cellsOf (sv a)) true 1)).push (.cells (cellsOf (sv b)) true 1))=H at*
 have W:=x0.wf hr.wf
 have hL:=x0.log.trans hr.log
 have C:=fun c c2=>sY F (h:={H with log:=[]}) (.of W) (c:=c) (c2:=c2) ha hb g0 g1
 refine aq ?_;refine cK ?_
 refine an rfl rfl rfl (by exact rfl) (by exact rfl) (by exact rfl) (mu (i:=0) (j:=8) (by exact rfl) (by exact rfl) (by exact rfl) (by omega) (by omega) (by omega) (by omega)) ?_
 refine an rfl rfl rfl (by exact rfl) (by exact rfl) (by exact rfl) (mu (i:=0) (j:=8) (by exact rfl) (by exact rfl) (by exact rfl) (by omega) (by omega) (by omega) (by omega)) ?_
 skip
 refine qC ?_
 refine FW.puD (C _ _) (by apply af rfl;apply af rfl;exact cI) ?_
 refine qM ?_;refine dF ?_;refine y1 ?_;refine br ?_;refine aP ?_
 exact aH hL rfl rfl
theorem Io(F:uY T)(hf:T 190=some f190){h:Heap}(hr:Rdy h){a b:List Nat}(ha:IsS a)(hb:IsS b):Pu T 190 [sv a,sv b] h (.int .i64 (cmpL a b)):=by
 refine .of F.p hf hr rfl ?_
 have x0:Ext h ((h.push (.cells (cellsOf (sv a)) true 1)).push (.cells (cellsOf (sv b)) true 1)):=((Ext.refl h).push _).push _
 have g0:((h.push (.cells (cellsOf (sv a)) true 1)).push (.cells (cellsOf (sv b)) true 1)).get h.next=some (.cells (us a) true 1):=by(simp(disch:=first|omega|(simp only[z1,z2];omega))only[z3,z4,z5,z6,z7,z1,z2];exact rfl)
 have g1:((h.push (.cells (cellsOf (sv a)) true 1)).push (.cells (cellsOf (sv b)) true 1)).get (h.next+1)=some (.cells (us b) true 1):=by(simp(disch:=first|omega|(simp only[z1,z2];omega)|(simp only[z1,z2];done)|fail)only[z8,z4,z5,z9,z7,z1,z2,g0];exact rfl)
 refine y4 ?_;refine yB ?_;refine yB ?_;refine yM ?_;refine y3 ?_
 generalize((h.push (.cells (cellsOf (sv a)) true 1)).push (.cells (cellsOf (sv b)) true 1))=H at*
 have W:=x0.wf hr.wf
 have hL:=x0.log.trans hr.log
 have C:=fun c c2=>sY F (h:={H with log:=[]}) (.of W) (c:=c) (c2:=c2) ha hb g0 g1
 refine aq ?_;refine cK ?_
 refine an rfl rfl rfl (by exact rfl) (by exact rfl) (by exact rfl) (mu (i:=0) (j:=8) (by exact rfl) (by exact rfl) (by exact rfl) (by omega) (by omega) (by omega) (by omega)) ?_
 refine an rfl rfl rfl (by exact rfl) (by exact rfl) (by exact rfl) (mu (i:=0) (j:=8) (by exact rfl) (by exact rfl) (by exact rfl) (by omega) (by omega) (by omega) (by omega)) ?_
 skip
 refine qC ?_
 refine FW.puD (C _ _) (by apply af rfl;apply af rfl;exact cI) ?_
 refine qM ?_;refine dF ?_;refine y1 ?_;refine br ?_;refine aP ?_
 exact aH hL rfl rfl
end Go.A.Pk
end
section
set_option maxRecDepth 100000
namespace Go.A.Pk
variable {T:Nat→Option ak}
def ic(a b:List Nat):Bool:=decide (b=s0)|| !(dK a b).isEmpty
def fnF(p q:Nat):Value:= .func (.func 209) #[] #[.pointer (some ⟨p,0,none⟩), .pointer (some ⟨q,0,none⟩)]
def moL(t x y z:Int):List Value:=[.int .i64 t, .int .i64 x, .int .i64 y, .int .i64 z]
structure Be (T:Nat→Option ak):Prop where
 ft:Ek T
 f34:T 34=some f34
 f120:T 120=some f120
theorem AH(F:Be T){h:Heap}(hr:Rdy h){a b:List Nat}(ha:IsS a)(hb:IsS b):
 Al T 120 [sv a,sv b] h fun v h'=>∃p q,v=fnF p q∧h'.get p=some (.cells (us a) true 1)∧h'.get q=some (.cells (us b) true 1)∧p<h'.next∧q<h'.next∧h.next≤p∧h.next≤q:=by
 refine .of F.ft.li.p F.f120 hr ?_ ?_
 ·rintro v h1 hv ⟨p,q,rfl,_⟩
  cases hv
 refine y4 ?_;refine yB ?_;refine yB ?_;refine yM ?_;refine y3 ?_;refine y4 ?_
 refine aa (gQ (by exact rfl) (by exact rfl)) ?_;refine yM ?_;refine y3 ?_;refine aP ?_
 exact eY hr.log rfl ⟨h.next,h.next+1,rfl,by(simp(disch:=first|omega|(simp only[z1,z2];omega))only[z3,z4,z5,z6,z7,z1,z2];exact rfl),by(simp(disch:=first|omega|(simp only[z1,z2];omega)|(simp only[z1,z2];done)|fail)only[z8,z4,z5,z9,z7,z1,z2];exact rfl),by show h.next<h.next+2;omega,by show h.next+1<h.next+2;omega,Nat.le_refl _,Nat.le_succ _⟩
section
open I
def oz:aX:=I.R [g 8 (.new [O,O,O,O]),S 4 8 16] [6,7,8]
def oG:aX:=(.block 1 (Q (I.R [N 18 4 8,S 4 6 18,⟨none, .store 1 (t 7) (.const (.bool true)),none⟩] [])
 (.exit 0)))
end
structure PFi (l:Nat) (H0:Heap) (L:bJ) (done:List Fi) (H:Heap):Prop where
 done:done=[]
 old:∀z,z<l→H.get z=H0.get z
 loop:H.get l=some L
structure SFi (l b6 b7:Nat) (H0:Heap) (LX:bJ) (all:List Fi) (H:Heap):Prop where
 ne:all≠[]
 old:∀z,z<l→z≠b6→z≠b7→H.get z=H0.get z
 loop:H.get l=some LX
 v6:∃t x y z,H.get b6=some (.cells (moL t x y z) true 1)
 v7:H.get b7=some (.cells [.bool true] true 1)
set_option maxHeartbeats 16000000 in
theorem Gm(hp:bA T){H:Heap}(hr:Rdy H){b6 b7 l lo N:Nat}{fv fv2:Value}{f:Fi}(hlo:lo≤b6)(h67:b6<b7)(hql:b7<l)(hlN:l<N){m6:List Value}(hm6:m6.length=4)
 (gl:H.get l=some (.loop [(4,fv2),(6, .pointer (some ⟨b6,0,none⟩)),(7, .pointer (some ⟨b7,0,none⟩)),(15,fv)] [16,17] oz oG 0 .normal))
 (g6:H.get b6=some (.cells m6 true 1))(g7:H.get b7=some (.cells [.bool false] true 1)){R:Heap→Prop}:
 FW T (.yield l) (fiV f) H fun r H'=>(∀z∈H'.log,lo≤z∧z<N)∧(r= .ret (.bool true)∧R H'∨r= .ret (.bool false)∧l∈H'.log∧((∀z,z<H.next→z≠b6→z≠b7→z≠l→H'.get z=H.get z)∧H'.get l=some (.loop [(4,fv2),(6, .pointer (some ⟨b6,0,none⟩)),(7, .pointer (some ⟨b7,0,none⟩)),(15,fv)] [16,17] oz oG 2 (.exit 0))∧H'.get b6=some (.cells (moL f.t f.x f.y f.z) true 1)∧H'.get b7=some (.cells [.bool true] true 1))):=by
 have k6:=hr.wf.iH g6
 have k7:=hr.wf.iH g7
 have kl:=hr.wf.iH gl
 refine FW.Kp hp (px:= .exit 0) (.inr ⟨0,rfl⟩) (S:=fun H'=>(∀z,z<H.next→z≠b6→z≠b7→z≠l→H'.get z=H.get z)∧H'.get l=some (.loop [(4,fv2),(6, .pointer (some ⟨b6,0,none⟩)),(7, .pointer (some ⟨b7,0,none⟩)),(15,fv)] [16,17] oz oG 2 (.exit 0))∧H'.get b6=some (.cells (moL f.t f.x f.y f.z) true 1)∧H'.get b7=some (.cells [.bool true] true 1)) gl rfl kl ⟨by omega,hlN⟩ ?_
 unfold oz
 refine aK ?_;refine aa (di) ?_;refine yS ?_;refine eD ?_
 refine y1 ?_
 refine⟨rfl,by(simp(disch:=first|omega|(simp only[z1,z2];omega))only[z3,z4,z5,z6,z7,z1,z2,gl,g6,g7];exact rfl),?_⟩
 unfold oG
 refine aI ?_
 refine WE.Cs ?_
 intro hA hAe
 have A1:∀z,z<H.next→z≠l→H.get z=hA.get z:=fun z hz hne=>by rw[hAe];symm;simp(disch:=first|omega|(simp only[z1,z2];omega))only[z5,z4]
 have A3:hA.get H.next=some (.cells (moL f.t f.x f.y f.z) true 1):=by rw[hAe];(simp(disch:=first|omega|(simp only[z1,z2];omega))only[z3,z4,z5,z6,z7,z1,z2,gl,g6,g7];exact rfl)
 have A2:hA.get l=some (.loop [(4,fv2),(6, .pointer (some ⟨b6,0,none⟩)),(7, .pointer (some ⟨b7,0,none⟩)),(15,fv)] [16,17] oz oG 1 .normal):=by rw[hAe];(simp(disch:=first|omega|(simp only[z1,z2];omega))only[z3,z4,z5,z6,z7,z1,z2,gl,g6,g7,A3];exact rfl)
 have A5:hA.next=H.next+1:=by rw[hAe];rfl
 have A6:hA.log=[]:=by rw[hAe];simp(disch:=first|omega|(simp only[z1,z2];omega))only[Heap.aG,Heap.pZ];exact hr.log
 clear hAe
 have B6:=(A1 b6 k6 (by omega)).symm.trans g6
 have B7:=(A1 b7 k7 (by omega)).symm.trans g7
 have ck:cG 4 (bX 0 (moL f.t f.x f.y f.z))=moL f.t f.x f.y f.z:=rfl
 have ckl:Nat.beq (bR (moL f.t f.x f.y f.z)) 4=true:=rfl
 have cko:eM (moL f.t f.x f.y f.z)=true:=rfl
 have ck4:(moL f.t f.x f.y f.z).length=4:=rfl
 refine y4 ?_;refine yN ?_;refine aa (dx (by exact rfl) (by exact rfl) (by assumption) (by assumption) (by assumption) (by exact rfl)) ?_
 refine yS ?_;refine y3 ?_;refine cU ?_;refine O3 (by exact rfl) ?_
 refine⟨⟨_,by(simp(disch:=first|omega|(simp only[z1,z2];omega))only[z3,z4,z5,z6,z7,z1,z2,gl,g6,g7,A3,A2,B6,B7];exact rfl),rfl⟩,fun z hz=> ?_, .inr ⟨rfl,fun h5 hn h5e h5l=>⟨fun z hz n6 n7 nl=> ?_,h5l,?_,?_⟩⟩⟩
 ·rcases ew hz with rfl|hz
  ·exact⟨by omega,by omega⟩
  rcases ew hz with rfl|hz
  ·exact⟨by omega,by omega⟩
  rw[A6]at hz;cases hz
 ·refine(h5e z nl).trans ?_
  rw[z5 n7,z5 n6]
  exact(A1 z hz nl).symm
 ·refine(h5e b6 (by omega)).trans ?_
  rw[z5 (by omega)]
  exact Heap.bC B6
 ·refine(h5e b7 (by omega)).trans ?_
  rw[z6,z5 (by omega),B7];rfl
theorem AQ{a b:List Nat}(hb:¬b=s0):ic a b= !(dK a b).isEmpty:=by unfold ic;rw[decide_eq_false hb];rfl
set_option maxHeartbeats 16000000 in
theorem AE(F:Be T){h:Heap}(hr:Rdy h)(hg:Tab h)(h2:2<h.next){a b:List Nat}(ha:IsS a)(hb:IsS b):
 Al T 34 [sv a,sv b] h fun v _=>∃t x y z,v= .tuple #[moV t x y z, .bool (ic a b)]:=by
 have hp:=F.ft.li.p
 refine .of hp F.f34 hr (fun v h1 hv q=>q) ?_
 have ka8:=aV ha.len
 have ka9:=bE ha.len
 have kb8:=aV hb.len
 have kb9:=bE hb.len
 have x0:Ext h (((h.push (.cells (cellsOf (sv a)) true 1)).push (.cells (cellsOf (sv b)) true 1)).push (.cells [I.O,I.O,I.O,I.O] true 1)):=(((Ext.refl h).push _).push _).push _
 have gA:(((h.push (.cells (cellsOf (sv a)) true 1)).push (.cells (cellsOf (sv b)) true 1)).push (.cells [I.O,I.O,I.O,I.O] true 1)).get h.next=some (.cells (us a) true 1):=by(simp(disch:=first|omega|(simp only[z1,z2];omega))only[z3,z4,z5,z6,z7,z1,z2];exact rfl)
 have gB:(((h.push (.cells (cellsOf (sv a)) true 1)).push (.cells (cellsOf (sv b)) true 1)).push (.cells [I.O,I.O,I.O,I.O] true 1)).get (h.next+1)=some (.cells (us b) true 1):=by(simp(disch:=first|omega|(simp only[z1,z2];omega)|(simp only[z1,z2];done)|fail)only[z8,z4,z5,z9,z7,z1,z2,gA];exact rfl)
 have gC:(((h.push (.cells (cellsOf (sv a)) true 1)).push (.cells (cellsOf (sv b)) true 1)).push (.cells [I.O,I.O,I.O,I.O] true 1)).get (h.next+2)=some (.cells [I.O,I.O,I.O,I.O] true 1):=by(simp(disch:=first|omega|(simp only[z1,z2];omega)|(simp only[z1,z2];done)|fail)only[z8,z4,z5,z9,z7,z1,z2,gA,gB];done)
 have n0:(((h.push (.cells (cellsOf (sv a)) true 1)).push (.cells (cellsOf (sv b)) true 1)).push (.cells [I.O,I.O,I.O,I.O] true 1)).next=h.next+3:=rfl
 refine y4 ?_;refine yB ?_;refine yB ?_;refine aa (di) ?_;refine yM ?_;refine y3 ?_;refine GF ?_
 generalize(((h.push (.cells (cellsOf (sv a)) true 1)).push (.cells (cellsOf (sv b)) true 1)).push (.cells [I.O,I.O,I.O,I.O] true 1))=H at*
 have W:=x0.wf hr.wf
 have hL:=x0.log.trans hr.log
 by_cases he:b=s0
 ·have hf:ic a b=true:=by unfold ic;rw[decide_eq_true he];rfl
  rw[hf]
  have ck:cG 4 (bX 0 (moL 0 (-7) (-7) (-7)))=moL 0 (-7) (-7) (-7):=rfl
  refine aq ?_;refine y4 ?_;refine aa (au (by exact rfl) (by assumption) (by assumption) (by assumption)) ?_;refine aa (dN (by exact rfl)) ?_
  refine aa (j8 (b:=s0) (by exact rfl) (by exact rfl) hb.len rfl) ?_
  rw[decide_eq_true he]
  refine y3 ?_;refine yY ?_;refine y4 ?_;refine aa (dN (by exact rfl)) ?_;refine yS ?_;refine yM ?_
  refine y3 ?_;refine aP ?_;refine eO ?_
  refine eY ?_ (cV (own:=true) (s:=1) rfl ?_ ck rfl rfl) ⟨0, -7, -7, -7,rfl⟩
  ·rw[Heap.aG (by show h.next≤h.next+2;omega)];exact hL
  ·(simp(disch:=first|omega|(simp only[z1,z2];omega))only[z3,z4,z5,z6,z7,z1,z2,gA,gB,gC];exact rfl)
 ·rw[AQ he]
  refine aq ?_;refine y4 ?_;refine aa (au (by exact rfl) (by assumption) (by assumption) (by assumption)) ?_;refine aa (dN (by exact rfl)) ?_
  refine aa (j8 (b:=s0) (by exact rfl) (by exact rfl) hb.len rfl) ?_
  rw[decide_eq_false he]
  refine y3 ?_;refine yX ?_;refine aM ?_;refine br ?_
  refine ff (E0:=[(2, .pointer (some ⟨h.next,0,none⟩)),(3, .pointer (some ⟨h.next+1,0,none⟩)),(4, .pointer (some ⟨h.next+2,0,none⟩)),(6, .pointer (some ⟨H.next,0,none⟩))]) (P:=fun h'=>h'=H.push (.cells [I.O,I.O,I.O,I.O] true 1)) ?_ ?_
  ·refine aK ?_;refine aa (di) ?_;refine eD ?_;refine y1 ?_
   exact⟨rfl,rfl,rfl,rfl⟩
  rintro _ rfl
  refine ff (E0:=[(2, .pointer (some ⟨h.next,0,none⟩)),(3, .pointer (some ⟨h.next+1,0,none⟩)),(4, .pointer (some ⟨h.next+2,0,none⟩)),(6, .pointer (some ⟨H.next,0,none⟩)),(7, .pointer (some ⟨H.next+1,0,none⟩))]) (P:=fun h'=>Ext H h'∧h'.next=H.next+2∧h'.get H.next=some (.cells [I.O,I.O,I.O,I.O] true 1)∧h'.get (H.next+1)=some (.cells [.bool false] true 1)) ?_ ?_
  ·refine aK ?_;refine aa (di) ?_
   refine yS ?_;refine eD ?_
   refine y1 ?_
   exact⟨rfl,rfl,rfl,((Ext.refl H).push _).trans (iu (by show h.next≤H.next+1;omega) _ _),rfl,by(simp(disch:=first|omega|(simp only[z1,z2];omega))only[z3,z4,z5,z6,z7,z1,z2,gA,gB,gC];done),by(simp(disch:=first|omega|(simp only[z1,z2];omega)|(simp only[z1,z2];done)|fail)only[z8,z4,z5,z9,z7,z1,z2,gA,gB,gC];exact rfl)⟩
  rintro H1 ⟨x1,n1,q6,q7⟩
  have ey1':=x0.trans x1
  have W1:=ey1'.wf hr.wf
  have hL1:=ey1'.log.trans hr.log
  have gA1:=(x1.old _ (by omega)).trans gA
  have gB1:=(x1.old _ (by omega)).trans gB
  have gC1:=(x1.old _ (by omega)).trans gC
  have C:=AH F (h:={H1 with log:=[]}) (.of W1) ha hb
  clear gA gB gC
  refine aq ?_;refine aM ?_;refine br ?_;refine aq ?_;refine y4 ?_;refine aa (au (by exact rfl) (by assumption) (by assumption) (by assumption)) ?_;refine aa (au (by exact rfl) (by assumption) (by assumption) (by assumption)) ?_
  refine yC ?_
  refine FW.al C (fun v h' m q=>q) ?_
  rintro _ H2 x2 ⟨qa,qb,rfl,ga,gb,kqa,kqb,na,nb⟩
  clear C
  have na:H1.next≤qa:=na
  have nb:H1.next≤qb:=nb
  have ey2':=ey1'.trans x2
  have W2:=ey2'.wf hr.wf
  have hL2:=ey2'.log.trans hr.log
  have n2:=x2.next
  have gC2:=(x2.old _ (by omega)).trans gC1
  have p6:=(x2.old _ (by omega)).trans q6
  have p7:=(x2.old _ (by omega)).trans q7
  have hg2:Tab H2:=hg.ext ey2' h2
  clear gA1 gB1 gC1 q6 q7
  refine y3 ?_;refine aI ?_
  refine B4 (px:= .exit 0) (lo:=H.next) (P:=PFi H2.next H2 (.loop [(4, .pointer (some ⟨h.next+2,0,none⟩)),(6, .pointer (some ⟨H.next,0,none⟩)),(7, .pointer (some ⟨H.next+1,0,none⟩)),(15,fnF qa qb)] [16,17] oz oG 0 .normal) (dK a b)) (S:=SFi H2.next H.next (H.next+1) H2 (.loop [(4, .pointer (some ⟨h.next+2,0,none⟩)),(6, .pointer (some ⟨H.next,0,none⟩)),(7, .pointer (some ⟨H.next+1,0,none⟩)),(15,fnF qa qb)] [16,17] oz oG 2 (.exit 0)) (dK a b)) rfl (by rfl) (by rw[F.ft.f209];rfl) (by omega) (by omega) hL2 W2 ?_ (fun H p=>⟨_,_,_,_,p.loop⟩) (fun H p=>⟨_,_,_,_,p.loop⟩) ?_ ?_
  ·have Y:IA (.exit 0) T H.next (H2.next+1) H2.next fiV (dK a b) (PFi H2.next H2 (.loop [(4, .pointer (some ⟨h.next+2,0,none⟩)),(6, .pointer (some ⟨H.next,0,none⟩)),(7, .pointer (some ⟨H.next+1,0,none⟩)),(15,fnF qa qb)] [16,17] oz oG 0 .normal)) (SFi H2.next H.next (H.next+1) H2 (.loop [(4, .pointer (some ⟨h.next+2,0,none⟩)),(6, .pointer (some ⟨H.next,0,none⟩)),(7, .pointer (some ⟨H.next+1,0,none⟩)),(15,fnF qa qb)] [16,17] oz oG 2 (.exit 0)) (dK a b)):=by
    refine⟨fun done f Hh hx hrH hN hP=> ?_,fun done Ha Hb p n e=>⟨p.done,fun z hz=>(e z (by omega)).trans (p.old z hz),(e _ (by omega)).trans p.loop⟩,fun Hh m p=>⟨p.ne,p.old,p.loop,p.v6,p.v7⟩,fun Hh p=>⟨_,_,_,_,p.loop⟩⟩
    refine FW.mono' (Gm hp hrH (f:=f) (lo:=H.next) (N:=H2.next+1) (R:=fun _=>False) (Nat.le_refl _) (Nat.lt_succ_self _) (by omega) (by omega) (m6:=[I.O,I.O,I.O,I.O]) rfl hP.loop ((hP.old _ (by omega)).trans p6) ((hP.old _ (by omega)).trans p7)) ?_
    rintro r' H' ⟨r1,r2⟩
    refine⟨r1,r2.imp (fun⟨_,e⟩=>e.elim) fun⟨e1,e2,e3,e4,e5,e6⟩=>⟨e1,e2,List.ne_nil_of_mem hx,fun z hz z6 z7=>(e3 z (by omega) z6 z7 (by omega)).trans (hP.old z hz),e4,⟨_,_,_,_,e5⟩,e6⟩⟩
   exact IE F.ft (.of (W2.push (.loop [(4, .pointer (some ⟨h.next+2,0,none⟩)),(6, .pointer (some ⟨H.next,0,none⟩)),(7, .pointer (some ⟨H.next+1,0,none⟩)),(15,fnF qa qb)] [16,17] oz oG 0 .normal))) (px:= .exit 0) (qa:=qa) (qb:=qb) (l:=H2.next) (N:=H2.next+1) (lo:=H.next) ha hb (Nat.le_refl _) (by show H.next≤H2.next+1;omega) (Nat.lt_succ_self _) (by omega) Y (fun d H' hP=>(hP.old _ kqa).trans ga) (fun d H' hP=>(hP.old _ kqb).trans gb) (fun d H' hP=>(hP.old 2 (by omega)).trans hg2)
    ⟨rfl,fun z hz=>z4 hz,z3 _ _⟩
  ·intro h4 h5 k1 k2 k3 k4 k5 hP
   have D4:=(k5 (h.next+2) (by omega)).trans ((hP.old _ (by omega)).trans gC2)
   have D6:=(k5 H.next (by omega)).trans ((hP.old _ (by omega)).trans p6)
   have D7:=(k5 (H.next+1) (by omega)).trans ((hP.old _ (by omega)).trans p7)
   have hd:=hP.done
   rw[hd]
   have ck:cG 4 (bX 0 (moL 0 0 0 0))=moL 0 0 0 0:=rfl
   refine fI ?_;refine br ?_;refine aq ?_;refine cK ?_;refine qN ?_;refine qL ?_
   refine j6 rfl rfl rfl (by exact rfl) (by exact rfl) (by exact rfl) (by assumption) (by exact rfl) (by exact rfl) (by omega) (by omega) (by apply bB rfl (aO rfl (dz (by exact rfl) (by(simp(disch:=first|omega|(simp only[z1,z2];omega))only[z3,z4,z5,z6,z7,z1,z2,ga,gb,gC2,p6,p7,D4,D6,D7];exact rfl)) (by exact rfl)) (by exact Bl _)) rfl;apply af rfl;exact cI) ?_
   refine qM ?_;refine dF ?_;refine y1 ?_;refine br ?_;refine aP ?_
   refine eY ?_ (cV (own:=true) (s:=1) rfl ?_ ck rfl rfl) ⟨0,0,0,0,rfl⟩
   ·rw[Heap.aG (by show h.next≤h.next+2;omega)];exact k1
   ·(simp(disch:=first|omega|(simp only[z1,z2];omega))only[z3,z4,z5,z6,z7,z1,z2,ga,gb,gC2,p6,p7,D4,D6,D7];exact rfl)
  ·intro h4 h5 k1 k2 k3 k4 k5 hP
   obtain⟨s1,s2,s3,⟨t,x,y,z,s4⟩,s5⟩:=hP
   have D4:=(k5 (h.next+2) (by omega)).trans ((s2 _ (by omega) (by omega) (by omega)).trans gC2)
   have D6:=(k5 H.next (by omega)).trans s4
   have D7:=(k5 (H.next+1) (by omega)).trans s5
   have hd:(dK a b).isEmpty=false:=by
    cases hq:dK a b with
    |nil=>exact absurd hq s1
    |cons _ _=>rfl
   rw[hd]
   have ck:cG 4 (bX 0 (moL t x y z))=moL t x y z:=rfl
   have ckl:Nat.beq (bR (moL t x y z)) 4=true:=rfl
   have cko:eM (moL t x y z)=true:=rfl
   have ck4:(moL t x y z).length=4:=rfl
   refine iw ?_;refine br ?_;refine aq ?_;refine cK ?_;refine qN ?_;refine qL ?_
   refine j6 rfl rfl rfl (by exact rfl) (by exact rfl) (by exact rfl) (by assumption) (by exact rfl) (by exact rfl) (by omega) (by omega) (by apply bB rfl (aO rfl (dz (by exact rfl) (by(simp(disch:=first|omega|(simp only[z1,z2];omega))only[z3,z4,z5,z6,z7,z1,z2,ga,gb,gC2,p6,p7,s3,s5,s4,D4,D6,D7];exact rfl)) (by exact rfl)) (by exact Bl _)) rfl;apply af rfl;exact cI) ?_
   refine qM ?_;refine dF ?_;refine y1 ?_;refine br ?_;refine aP ?_
   refine eY ?_ (cV (own:=true) (s:=1) rfl ?_ ck rfl rfl) ⟨t,x,y,z,rfl⟩
   ·rw[Heap.aG (by show h.next≤h.next+2;omega)];exact k1
   ·(simp(disch:=first|omega|(simp only[z1,z2];omega))only[z3,z4,z5,z6,z7,z1,z2,ga,gb,gC2,p6,p7,s3,s5,s4,D4,D6,D7];exact rfl)
end Go.A.Pk
end
section
set_option maxRecDepth 100000
namespace Go.A.Pk
variable {T:Nat→Option ak}
structure GD (T:Nat→Option ak):Prop where
 fi:Be T
 f33:T 33=some f33
 f89:T 89=some f89
 f90:T 90=some f90
theorem Fm(F:GD T){h:Heap}(hr:Rdy h){w:List Nat×List Nat}(hw:IsW w):Pu T 89 [wV w] h (.bool (sIn w.1 w.2)):=by
 have hp:=F.fi.ft.li.p
 refine .of hp F.f89 hr rfl ?_
 have hwc:cellsOf (wV w)=wL w:=by show(wL w).toArray.toList=_;simp
 have g0:(h.push (.cells (cellsOf (wV w)) true 1)).get h.next=some (.cells (wL w) true 1):=by rw[hwc];exact z3 h _
 have W:WF (h.push (.cells (cellsOf (wV w)) true 1)):=hr.wf.push _
 have hL:(h.push (.cells (cellsOf (wV w)) true 1)).log=[]:=hr.log
 refine y4 ?_;refine yB ?_;refine yM ?_;refine y3 ?_
 generalize(h.push (.cells (cellsOf (wV w)) true 1))=H at*
 have C:=vY hp F.fi.ft.f35 F.fi.ft.f121 (h:={H with log:=[]}) (.of W) hw.a hw.b
 have wa:=zi hw
 have wb:=wY hw
 have wka:=aV hw.a.len
 have wkb:=aV hw.b.len
 refine y4 ?_;refine yF ?_;refine aa (au (by exact rfl) (by assumption) (by assumption) (by assumption)) ?_;refine yF ?_;refine aa (au (by exact rfl) (by assumption) (by assumption) (by assumption)) ?_
 refine yC ?_
 refine FW.pu C ?_
 refine yM ?_;refine y3 ?_;refine aP ?_
 exact aH hL rfl rfl
def svR(w:List Nat×List Nat)(o:List Nat):Nat×Int:=
 if sIn w.1 w.2=false∨o=s0 then(0,1)else if ic w.1 o then(1,0)else if ic w.2 o then(3,0)else(2,0)
def svV(p:Nat×Int):Value:= .tuple #[.int .u8 (p.1:Nat), .int .i64 p.2]
set_option maxHeartbeats 8000000 in
theorem Di(F:GD T){h:Heap}(hr:Rdy h)(hg:Tab h)(h2:2<h.next){w:List Nat×List Nat}(hw:IsW w){o:List Nat}(ho:IsS o):Pu T 33 [wV w,sv o] h (svV (svR w o)):=by
 have hp:=F.fi.ft.li.p
 refine .of hp F.f33 hr rfl ?_
 have hwc:cellsOf (wV w)=wL w:=by show(wL w).toArray.toList=_;simp
 have g0:((h.push (.cells (cellsOf (wV w)) true 1)).push (.cells (cellsOf (sv o)) true 1)).get h.next=some (.cells (wL w) true 1):=by rw[hwc];exact(z4 (Nat.lt_succ_self _)).trans (z3 h _)
 have g1:((h.push (.cells (cellsOf (wV w)) true 1)).push (.cells (cellsOf (sv o)) true 1)).get (h.next+1)=some (.cells (us o) true 1):=z3 _ _
 have n0:((h.push (.cells (cellsOf (wV w)) true 1)).push (.cells (cellsOf (sv o)) true 1)).next=h.next+2:=rfl
 have x0:Ext h ((h.push (.cells (cellsOf (wV w)) true 1)).push (.cells (cellsOf (sv o)) true 1)):=((Ext.refl h).push _).push _
 refine y4 ?_;refine yB ?_;refine yB ?_;refine yM ?_;refine yM ?_;refine y3 ?_
 generalize((h.push (.cells (cellsOf (wV w)) true 1)).push (.cells (cellsOf (sv o)) true 1))=H at*
 have W:=x0.wf hr.wf
 have hL:=x0.log.trans hr.log
 have wk:=vP hw
 have wkl:=rX hw
 have wa:=zi hw
 have wb:=wY hw
 have wka:=aV hw.a.len
 have wkb:=aV hw.b.len
 have k8:=aV ho.len
 have k9:=bE ho.len
 have C1:=Fm F (h:={H with log:=[]}) (.of W) hw
 have C2:=BF hp F.f90 (h:={H with log:=[]}) (.of W) ho
 have C3:=AE F.fi (h:={H with log:=[]}) (.of W) (show Tab H from hg.ext x0 h2) (by show 2<H.next;omega) hw.a ho
 unfold svR
 cases hin:sIn w.1 w.2 with
 |false=>
  rw[hin]at C1
  rw[if_pos (.inl rfl)]
  refine aq ?_;refine y4 ?_;refine aa (au (by exact rfl) (by assumption) (by assumption) (by assumption)) ?_
  refine yC ?_
  refine FW.pu C1 ?_
  refine yA ?_;refine yM ?_;refine yP ?_;refine yP ?_;refine yT ?_;refine y3 ?_
  refine yY ?_;refine y4 ?_;refine yM ?_;refine yM ?_;refine y3 ?_;refine aP ?_;refine eO ?_
  exact aH hL rfl rfl
 |true=>
  rw[hin]at C1
  by_cases hz:o=s0
  ·rw[if_pos (.inr hz)]
   rw[decide_eq_true hz]at C2
   refine aq ?_;refine y4 ?_;refine aa (au (by exact rfl) (by assumption) (by assumption) (by assumption)) ?_
   refine yC ?_
   refine FW.pu C1 ?_
   refine yA ?_;refine yM ?_;refine yO ?_;refine aa (au (by exact rfl) (by assumption) (by assumption) (by assumption)) ?_;refine yO ?_
   refine yC ?_
   refine FW.pu C2 ?_
   refine yU ?_;refine y3 ?_;refine yY ?_;refine y4 ?_;refine yM ?_;refine yM ?_;refine y3 ?_;refine aP ?_;refine eO ?_
   exact aH hL rfl rfl
  ·rw[if_neg (fun q=>q.elim (by simp) hz)]
   rw[decide_eq_false hz]at C2
   refine aq ?_;refine y4 ?_;refine aa (au (by exact rfl) (by assumption) (by assumption) (by assumption)) ?_
   refine yC ?_
   refine FW.pu C1 ?_
   refine yA ?_;refine yM ?_;refine yO ?_;refine aa (au (by exact rfl) (by assumption) (by assumption) (by assumption)) ?_;refine yO ?_
   refine yC ?_
   refine FW.pu C2 ?_
   clear C1 C2
   refine yU ?_;refine y3 ?_;refine yX ?_;refine aM ?_;refine br ?_;refine aq ?_;refine y4 ?_;refine yF ?_
   refine aa (au (by exact rfl) (by assumption) (by assumption) (by assumption)) ?_;refine aa (au (by exact rfl) (by assumption) (by assumption) (by assumption)) ?_
   refine yC ?_
   refine FW.al C3 (fun v h' m q=>q) ?_
   rintro _ H1 x1 ⟨t,x,y,z,rfl⟩
   clear C3
   have n1:=x1.next
   have ey1':=x0.trans x1
   have g01:=(x1.old _ (by omega)).trans g0
   have g11:=(x1.old _ (by omega)).trans g1
   have hL1:=x1.log.trans hL
   have x2:=iu (h:=H1) (base:=h.next) (by omega) (.cells [I.O,I.O,I.O,I.O] true 1) (.cells (cD [I.O,I.O,I.O,I.O] 0 (cellsOf (moV t x y z))) true 1)
   have n2:((H1.push (.cells [I.O,I.O,I.O,I.O] true 1)).wr h.next H1.next (.cells (cD [I.O,I.O,I.O,I.O] 0 (cellsOf (moV t x y z))) true 1)).next=H1.next+1:=rfl
   clear g0 g1
   cases hf1:ic w.1 o with
   |true=>
    rw[if_pos rfl]
    refine yM ?_;refine yE ?_;refine yE ?_;refine aa (di) ?_
    refine yS ?_;refine yM ?_;refine y3 ?_;refine y4 ?_;refine yM ?_;refine y3 ?_;refine yY ?_;refine y4 ?_;refine yM ?_;refine yM ?_;refine y3 ?_;refine aP ?_;refine eO ?_
    exact aH ((Heap.aG (by omega)).trans hL1) rfl rfl
   |false=>
    rw[if_neg (by simp)]
    refine yM ?_;refine yE ?_;refine yE ?_;refine aa (di) ?_
    refine yS ?_;refine yM ?_;refine y3 ?_;refine y4 ?_;refine yM ?_;refine y3 ?_;refine yX ?_;refine aM ?_;refine br ?_
    refine aq ?_
    generalize((H1.push (.cells [I.O,I.O,I.O,I.O] true 1)).wr h.next H1.next (.cells (cD [I.O,I.O,I.O,I.O] 0 (cellsOf (moV t x y z))) true 1))=H2 at*
    have ey2':=ey1'.trans x2
    have W2:=ey2'.wf hr.wf
    have hL2:=x2.log.trans hL1
    have g02:=(x2.old _ (by omega)).trans g01
    have g12:=(x2.old _ (by omega)).trans g11
    have C4:=AE F.fi (h:={H2 with log:=[]}) (.of W2) (show Tab H2 from hg.ext ey2' h2) (by show 2<H2.next;omega) hw.b ho
    clear g01 g11
    refine y4 ?_;refine yF ?_;refine aa (au (by exact rfl) (by assumption) (by assumption) (by assumption)) ?_;refine aa (au (by exact rfl) (by assumption) (by assumption) (by assumption)) ?_
    refine yC ?_
    refine FW.al C4 (fun v h' m q=>q) ?_
    rintro _ H3 x3 ⟨t',x',y',z',rfl⟩
    clear C4
    have n3:=x3.next
    have hL3:=x3.log.trans hL2
    cases hf2:ic w.2 o with
    |true=>
     rw[if_pos rfl]
     refine yM ?_;refine yE ?_;refine yE ?_;refine aa (di) ?_
     refine yS ?_;refine yM ?_;refine y3 ?_;refine y4 ?_;refine yM ?_;refine y3 ?_;refine yY ?_;refine y4 ?_;refine yM ?_;refine yM ?_;refine y3 ?_;refine aP ?_;refine eO ?_
     exact aH ((Heap.aG (by omega)).trans hL3) rfl rfl
    |false=>
     rw[if_neg (by simp)]
     refine yM ?_;refine yE ?_;refine yE ?_;refine aa (di) ?_
     refine yS ?_;refine yM ?_;refine y3 ?_;refine y4 ?_;refine yM ?_;refine y3 ?_;refine yX ?_;refine aM ?_;refine br ?_
     refine y4 ?_;refine yM ?_;refine yM ?_;refine y3 ?_;refine aP ?_
     exact aH ((Heap.aG (by omega)).trans hL3) rfl rfl
end Go.A.Pk
end
section
set_option maxRecDepth 100000
namespace Go.A.Pk
theorem qR{a b:List Nat}(ha:IsS a)(hb:IsS b)(c:Ce):dP (jO a b) c=(dP a c&&dP b c):=by
 by_cases hc:inG c=true
 ·obtain⟨z,i,hz,hi,rfl⟩:=gU hc
  rw[fh hz hi,fh hz hi,fh hz hi]
  unfold jO oq
  rw[sn ha hb hz]
  exact Nat.testBit_and ..
 ·rw[fN hc,fN hc,fN hc];rfl
theorem pY{a b:List Nat}(ha:IsS a)(hb:IsS b)(h:∀z i,z<8→i<64→dP a (fC z i)=dP b (fC z i)):a=b:=by
 apply List.ext_getElem?
 intro z
 rcases Nat.lt_or_ge z 8 with hz|hz
 ·rw[jT (by rw[ha.len];exact hz),jT (by rw[hb.len];exact hz)]
  congr 1
  apply Nat.eq_of_testBit_eq
  intro i
  rcases Nat.lt_or_ge i 64 with hi|hi
  ·have:=h z i hz hi
   rwa [fh hz hi,fh hz hi]at this
  ·have big:∀x:Nat,x<U64→x.testBit i=false:=fun x hx=>Nat.testBit_lt_two_pow (Nat.lt_of_lt_of_le hx (show 2 ^ 64≤2 ^ i from Nat.pow_le_pow_right (by omega) hi))
   rw[big _ (ha.jW z),big _ (hb.jW z)]
 ·rw[List.getElem?_eq_none (by rw[ha.len];exact hz),List.getElem?_eq_none (by rw[hb.len];exact hz)]
theorem DD{z i:Nat}(hz:z<8)(hi:i<64):fC z i∈(List.range 512).map ceN:=by
 rw[←wT hi]
 exact List.mem_map_of_mem (List.mem_range.2 (by omega))
end Go.A.Pk
end
section
set_option maxRecDepth 100000
namespace Go.A.Pk
def mlo(f:Ce→Int)(m:Int)(l:List Ce):Int:=l.foldl (fun m c=>mi m (f c)) m
def mhi(f:Ce→Int)(m:Int)(l:List Ce):Int:=l.foldl (fun m c=>mx m (f c)) m
theorem KW(a b:Int):mi a b≤a:=by unfold mi;split<;>omega
theorem K9(a b:Int):mi a b≤b:=by unfold mi;split<;>omega
theorem Kq(a b:Int):a≤mx a b:=by unfold mx;split<;>omega
theorem KM(a b:Int):b≤mx a b:=by unfold mx;split<;>omega
theorem Nn{k a b:Int}(h1:k≤a)(h2:k≤b):k≤mi a b:=by unfold mi;split<;>omega
theorem MP{k a b:Int}(h1:a≤k)(h2:b≤k):mx a b≤k:=by unfold mx;split<;>omega
theorem qz(f:Ce→Int):∀(l:List Ce) (m:Int),mlo f m l≤m∧∀c∈l,mlo f m l≤f c
 |[],m=>⟨Int.le_refl _,fun c hc=>by cases hc⟩
 |c::l,m=>by
  obtain⟨h1,h2⟩:=qz f l (mi m (f c))
  refine⟨Int.le_trans h1 (KW _ _),fun d hd=> ?_⟩
  rcases List.mem_cons.1 hd with rfl|hd
  ·exact Int.le_trans h1 (K9 _ _)
  ·exact h2 d hd
theorem uf(f:Ce→Int){k:Int}:∀(l:List Ce) (m:Int),k≤m→(∀c∈l,k≤f c)→k≤mlo f m l
 |[],_,h,_=>h
 |c::l,m,h,hl=>uf f l (mi m (f c)) (Nn h (hl c List.mem_cons_self)) fun d hd=>hl d (List.mem_cons_of_mem _ hd)
theorem qx(f:Ce→Int):∀(l:List Ce) (m:Int),m≤mhi f m l∧∀c∈l,f c≤mhi f m l
 |[],m=>⟨Int.le_refl _,fun c hc=>by cases hc⟩
 |c::l,m=>by
  obtain⟨h1,h2⟩:=qx f l (mx m (f c))
  refine⟨Int.le_trans (Kq _ _) h1,fun d hd=> ?_⟩
  rcases List.mem_cons.1 hd with rfl|hd
  ·exact Int.le_trans (KM _ _) h1
  ·exact h2 d hd
theorem tF(f:Ce→Int){k:Int}:∀(l:List Ce) (m:Int),m≤k→(∀c∈l,f c≤k)→mhi f m l≤k
 |[],_,h,_=>h
 |c::l,m,h,hl=>tF f l (mx m (f c)) (MP h (hl c List.mem_cons_self)) fun d hd=>hl d (List.mem_cons_of_mem _ hd)
theorem wq(f:Ce→Int){l l':List Ce}(h:∀c∈l,c∈l')(m:Int):mlo f m l'≤mlo f m l:=
 uf f l m (qz f l' m).1 fun c hc=>(qz f l' m).2 c (h c hc)
theorem wD(f:Ce→Int){l l':List Ce}(h:∀c∈l,c∈l')(m:Int):mhi f m l≤mhi f m l':=
 tF f l m (qx f l' m).1 fun c hc=>(qx f l' m).2 c (h c hc)
theorem AF:∀(l:List Ce) (b:Bx),l.foldl xq b=⟨⟨mlo (·.x) b.lo.x l,mlo (·.y) b.lo.y l,mlo (·.z) b.lo.z l⟩,⟨mhi (·.x) b.hi.x l,mhi (·.y) b.hi.y l,mhi (·.z) b.hi.z l⟩⟩
 |[],b=>rfl
 |c::l,b=>by rw[List.foldl_cons,AF l (xq b c)];rfl
theorem tZ(l:List Ce):bxS l=⟨⟨mlo (·.x) 7 l,mlo (·.y) 7 l,mlo (·.z) 7 l⟩,⟨mhi (·.x) 0 l,mhi (·.y) 0 l,mhi (·.z) 0 l⟩⟩:=AF l bx0
def Sub(a b:List Nat):Prop:=∀c,dP a c=true→dP b c=true
theorem Sub.cells{a b:List Nat}(h:Sub a b){n:Nat}{c:Ce}(hc:c∈bn a n):c∈bn b n:=by
 obtain⟨h1,h2⟩:=List.mem_filter.1 hc
 exact List.mem_filter.2 ⟨h1,h c h2⟩
theorem filter_le{α:Type}{p q:α→Bool}(h:∀x,p x=true→q x=true):∀l:List α,(l.filter p).length≤(l.filter q).length
 |[]=>Nat.le_refl _
 |x::l=>by
  have ih:=filter_le h l
  rw[List.filter_cons,List.filter_cons]
  by_cases hp:p x=true
  ·rw[if_pos hp,if_pos (h x hp)];simpa using ih
  ·rw[if_neg hp]
   split
   ·exact Nat.le_succ_of_le ih
   ·exact ih
theorem Sub.cnt{a b:List Nat}(h:Sub a b):dL a≤dL b:=filter_le h _
theorem ig{a b:List Nat}(ha:IsS a)(hb:IsS b):sIn a b=true↔Sub a b:=by
 unfold sIn
 rw[decide_eq_true_eq]
 constructor
 ·intro h c hc
  have e:dP (jO a b) c=dP a c:=by rw[h]
  rw[qR ha hb,hc,Bool.true_and]at e
  exact e
 ·intro h
  refine pY (ha.meet hb) ha fun z i hz hi=> ?_
  rw[qR ha hb]
  cases hc:dP a (fC z i)with
  |false=>rfl
  |true=>rw[h _ hc];rfl
theorem Ax{lo hi lo' hi' z:Int}(h1:lo'≤lo)(h2:hi≤hi')(h:z∈zr lo hi):z∈zr lo' hi':=by
 obtain⟨n,hn,rfl⟩:=List.mem_map.1 h
 have hn:=List.mem_range.1 hn
 refine List.mem_map.2 ⟨(lo+(n:Nat)-lo').toNat,List.mem_range.2 (by omega),by omega⟩
theorem BW{a a' b:List Nat}(ha:IsS a)(ha':IsS a')(h:Sub a a'){f:Fi}(hf:f∈dK a b):f∈dK a' b:=by
 unfold dK at hf⊢
 split at hf
 ·cases hf
 ·rename_i hn
  have h0:¬a=s0:=fun q=>hn (.inl q)
  have h0':¬a'=s0:=fun q=>h0 (pY ha tO fun z i hz hi=>by
   cases hc:dP a (fC z i)with
   |false=>rw[nR]
   |true=>
    have:=h _ hc
    rw[q]at this
    rw[this])
  have hcn:¬dL a'<dL b:=fun q=>hn (.inr (Nat.lt_of_le_of_lt h.cnt q))
  rw[if_neg (fun q=>q.elim h0' hcn)]
  obtain⟨t,ht,hf⟩:=List.mem_flatMap.1 hf
  refine List.mem_flatMap.2 ⟨t,ht,?_⟩
  have e1:(dy a).1=bxS (bn a 512):=by unfold dy;rw[if_neg h0]
  have e2:(dy a').1=bxS (bn a' 512):=by unfold dy;rw[if_neg h0']
  have hs:∀c∈bn a 512,c∈bn a' 512:=fun c hc=>h.cells hc
  unfold jG at hf⊢
  rw[e1,tZ]at hf
  rw[e2,tZ]
  unfold xS at hf⊢
  obtain⟨z,hz,hf⟩:=List.mem_flatMap.1 hf
  have m1:=wq (·.z) hs 7
  have m2:=wD (·.z) hs 0
  have m3:=wq (·.y) hs 7
  have m4:=wD (·.y) hs 0
  have m5:=wq (·.x) hs 7
  have m6:=wD (·.x) hs 0
  refine List.mem_flatMap.2 ⟨z,Ax (by dsimp only;omega) (by dsimp only;omega) hz,?_⟩
  unfold nA at hf⊢
  obtain⟨y,hy,hf⟩:=List.mem_flatMap.1 hf
  refine List.mem_flatMap.2 ⟨y,Ax (by dsimp only;omega) (by dsimp only;omega) hy,?_⟩
  unfold kQ at hf⊢
  obtain⟨x,hx,hf⟩:=List.mem_flatMap.1 hf
  refine List.mem_flatMap.2 ⟨x,Ax (by dsimp only;omega) (by dsimp only;omega) hx,?_⟩
  unfold mC at hf⊢
  split at hf
  ·rename_i hin
   have hl:=jy (lS b t) (dy (dR b t)).1.lo.z.toNat z (8*y+x) ((dy (dR b t)).1.hi.z-(dy (dR b t)).1.lo.z+1).toNat
   have hin2:sIn (gV (dR b t) (dy (dR b t)).1 x y z) a'=true:=(ig hl ha').2 fun c hc=>h c ((ig hl ha).1 hin c hc)
   rw[if_pos hin2];exact hf
  ·cases hf
theorem uU{a a' b:List Nat}(ha:IsS a)(ha':IsS a')(h:Sub a a')(hf:ic a b=true):ic a' b=true:=by
 unfold ic at hf⊢
 rw[Bool.or_eq_true]at hf⊢
 rcases hf with hf|hf
 ·exact .inl hf
 ·right
  cases hq:dK a b with
  |nil=>rw[hq]at hf;cases hf
  |cons f r=>
   have:=BW ha ha' h (f:=f) (by rw[hq];exact List.mem_cons_self)
   cases hq':dK a' b with
   |nil=>rw[hq']at this;cases this
   |cons _ _=>rfl
end Go.A.Pk
end
section
set_option maxRecDepth 100000
namespace Go.A.Pk
variable {T:Nat→Option ak}
end Go.A.Pk
end
section
set_option maxRecDepth 100000
namespace Go.A.Pk
variable {T:Nat→Option ak}
theorem Bw(F:BA T)(hf:T 84=some f84){h:Heap}(hr:Rdy h){s:List Nat}(hs:IsS s):Pu T 84 [sv s] h (.int .i64 ((dL s:Nat):Int)):=by
 refine .of F.hr.p hf hr rfl ?_
 have k8:=aV hs.len
 have k9:=bE hs.len
 have x0:Ext h (h.push (.cells (cellsOf (sv s)) true 1)):=(Ext.refl h).push _
 have g0:(h.push (.cells (cellsOf (sv s)) true 1)).get h.next=some (.cells (us s) true 1):=z3 h _
 refine y4 ?_;refine yB ?_;refine yM ?_;refine y3 ?_
 generalize(h.push (.cells (cellsOf (sv s)) true 1))=H at*
 have W:=x0.wf hr.wf
 have hL:=x0.log.trans hr.log
 have hle:=kn s 512
 have C:=GM F (h:={H with log:=[]}) (.of W) hs
 unfold dL
 refine y4 ?_;refine aa (au (by exact rfl) (by assumption) (by assumption) (by assumption)) ?_
 refine yC ?_
 refine FW.al C (fun v h' m q=>q.log m) ?_
 rintro v H1 x1 q
 clear C
 have hL1:=x1.log.trans hL
 obtain⟨a,c,rfl⟩:=(q.slice (by omega)).form
 refine yD ?_;refine yM ?_;refine y3 ?_;refine aP ?_
 exact aH hL1 rfl rfl
end Go.A.Pk
end
section
set_option maxRecDepth 100000
namespace Go.A.Pk
variable {T:Nat→Option ak}
structure LF (T:Nat→Option ak):Prop where
 cr:BA T
 f137:T 137=some f137
 f139:T 139=some f139
 f221:T 221=some f221
 f222:T 222=some f222
 f223:T 223=some f223
 f224:T 224=some f224
 f267:T 267=some f267
theorem jg{α:Type}{l:List α}{j:Nat}{x:α}(h:l[j]? =some x):l.take (j+1)=l.take j++[x]:=by
 rw[List.take_add_one,h];rfl
end Go.A.Pk
end
section
set_option maxRecDepth 100000
namespace Go.A.Pk
variable {T:Nat→Option ak}
def shC(x y z:Int)(c:Ce):Ce:=⟨c.x+x,c.y+y,c.z+z⟩
end Go.A.Pk
end
section
set_option maxRecDepth 100000
namespace Go.A.Pk
variable {T:Nat→Option ak}
theorem BY{s:List Nat}(hs:IsS s)(h:bn s 512=[]):s=s0:=by
 refine pY hs tO fun z i hz hi=> ?_
 rw[nR]
 cases hc:dP s (fC z i)with
 |false=>rfl
 |true=>
  have:fC z i∈bn s 512:=List.mem_filter.2 ⟨List.mem_map.2 ⟨z*64+i,List.mem_range.2 (by omega),wT hi⟩,hc⟩
  rw[h]at this;cases this
end Go.A.Pk
end
section
set_option maxRecDepth 100000
namespace Go.A.Pk
theorem xC{z i z' i':Nat}(h:fC z i=fC z' i'):z=z'∧i=i':=by
 unfold fC at h
 injection h with h1 h2 h3
 omega
theorem HF{o:List Nat}(ho:IsS o){d:Ce}(hd:inG d=true)(c:Ce):dP (oZ o d) c=(dP o c||decide (c=d)):=by
 by_cases hc:inG c=true
 ·obtain⟨z,i,hz,hi,rfl⟩:=gU hc
  obtain⟨m,j,hm,hj,rfl⟩:=gU hd
  rw[fh hz hi,fh hz hi,wO o hj]
  by_cases e:m=z
  ·subst e
   have e1:(o.set m (Nat.lor (o.getD m 0) (2 ^ j))).getD m 0=Nat.lor (o.getD m 0) (2 ^ j):=by
    rw[List.getD_eq_getElem?_getD,List.getElem?_set_self (by rw[ho.len];exact hm)];rfl
   rw[e1]
   show Nat.testBit (o.getD m 0|||2 ^ j) i=_
   rw[Nat.testBit_or,Nat.testBit_two_pow]
   congr 1
   by_cases e2:j=i
   ·subst e2;simp
   ·rw[decide_eq_false e2,decide_eq_false (fun q=>e2 (xC q).2.symm)]
  ·have e1:(o.set m (Nat.lor (o.getD m 0) (2 ^ j))).getD z 0=o.getD z 0:=by
    rw[List.getD_eq_getElem?_getD,List.getElem?_set_ne e,←List.getD_eq_getElem?_getD]
   rw[e1,decide_eq_false (fun q=>e (xC q).1.symm),Bool.or_false]
 ·rw[fN hc,fN hc,decide_eq_false (fun(q:c=d)=>hc (by rw[q];exact hd))];rfl
theorem Hf{f:Ce→Ce}(c:Ce):∀{l:List Ce},(∀x∈l,inG (f x)=true)→(dP (sU f l) c=true↔ ∃x∈l,f x=c):=by
 intro l
 have:∀(l:List Ce) (o:List Nat),IsS o→(∀x∈l,inG (f x)=true)→(dP (l.foldl (fun o c=>oZ o (f c)) o) c=true↔dP o c=true∨∃x∈l,f x=c):=by
  intro l
  induction l with
  |nil=>intro o _ _;simp
  |cons d l ih=>
   intro o ho hl
   rw[List.foldl_cons,ih _ (ho.oZ (hl d List.mem_cons_self)) fun x hx=>hl x (List.mem_cons_of_mem _ hx),HF ho (hl d List.mem_cons_self),Bool.or_eq_true,decide_eq_true_eq]
   constructor
   ·rintro((h|h)|⟨x,hx,h⟩)
    ·exact .inl h
    ·exact .inr ⟨d,List.mem_cons_self,h.symm⟩
    ·exact .inr ⟨x,List.mem_cons_of_mem _ hx,h⟩
   ·rintro(h|⟨x,hx,h⟩)
    ·exact .inl (.inl h)
    ·rcases List.mem_cons.1 hx with rfl|hx
     ·exact .inl (.inr h.symm)
     ·exact .inr ⟨x,hx,h⟩
 intro hl
 have e:=this l s0 tO hl
 rw[nR]at e
 simpa[sU]using e
theorem dW{s:List Nat}{c:Ce}:c∈bn s 512↔dP s c=true:=by
 constructor
 ·intro h;exact(List.mem_filter.1 h).2
 ·intro h
  have hc:inG c=true:=by
   cases hq:inG c with
   |true=>rfl
   |false=>rw[fN (by rw[hq];simp)]at h;cases h
  obtain⟨z,i,hz,hi,rfl⟩:=gU hc
  exact List.mem_filter.2 ⟨DD hz hi,h⟩
theorem pP{f:Ce→Ce}{s:List Nat}(h:∀x∈bn s 512,inG (f x)=true)(c:Ce):dP (mL f s) c=true↔ ∃x,dP s x=true∧f x=c:=by
 unfold mL
 rw[Hf c h]
 constructor
 ·rintro⟨x,hx,e⟩;exact⟨x,dW.1 hx,e⟩
 ·rintro⟨x,hx,e⟩;exact⟨x,dW.2 hx,e⟩
theorem Ip{p:Nat}{k:Int}{i:Nat}(hi:i<64):Nat.testBit (shP p k) i=(decide (0≤(i:Int)-k)&&Nat.testBit p ((i:Int)-k).toNat):=by
 unfold shP
 split
 ·rename_i h
  show Nat.testBit ((p<<<k.toNat) % 2 ^ 64) i=_
  rw[Nat.testBit_mod_two_pow,decide_eq_true hi,Bool.true_and,Nat.testBit_shiftLeft]
  by_cases hk:k.toNat≤i
  ·rw[decide_eq_true (show i≥k.toNat from hk),decide_eq_true (show 0≤(i:Int)-k by omega),show((i:Int)-k).toNat=i-k.toNat by omega]
  ·rw[decide_eq_false (show¬i≥k.toNat from hk),decide_eq_false (show¬0≤(i:Int)-k by omega)];rfl
 ·rename_i h
  show Nat.testBit (p>>>(-k).toNat) i=_
  rw[Nat.testBit_shiftRight,decide_eq_true (show 0≤(i:Int)-k by omega),show((i:Int)-k).toNat=(-k).toNat+i by omega];rfl
theorem tj{s:List Nat}(hs:IsS s){a:Nat}{z k:Int}:∀{n:Nat},0≤(a:Int)+z→(a:Int)+z+(n:Nat)≤8→∀m:Nat,m<8→
 (jH s a z k n).getD m 0=if(a:Int)+z≤(m:Int)∧(m:Int)<(a:Int)+z+(n:Nat)then shP (s.getD ((m:Int)-z).toNat 0) k else 0
 |0,_,_,m,hm=>by
  rw[if_neg (by omega)]
  have:∀z:Fin 8,s0.getD z.val 0=0:=by decide
  exact this ⟨m,hm⟩
 |n+1,h1,h2,m,hm=>by
  have ih:=tj (k:=k) hs (n:=n) h1 (by omega) m hm
  unfold jH
  by_cases e:(((a+n:Nat):Int)+z).toNat=m
  ·rw[List.getD_eq_getElem?_getD,e,List.getElem?_set_self (by rw[(jy hs a z k n).len];exact hm),if_pos (by omega)]
   show shP (s.getD (a+n) 0) k=_
   rw[show((m:Int)-z).toNat=a+n by omega]
  ·rw[List.getD_eq_getElem?_getD,List.getElem?_set_ne e,←List.getD_eq_getElem?_getD,ih]
   by_cases q:(a:Int)+z≤(m:Int)∧(m:Int)<(a:Int)+z+(n:Nat)
   ·rw[if_pos q,if_pos (by omega)]
   ·rw[if_neg q,if_neg (by omega)]
theorem Hr{x i:Nat}(hx:x<U64)(h:x.testBit i=true):i<64:=by
 rcases Nat.lt_or_ge i 64 with hi|hi
 ·exact hi
 ·rw[Nat.testBit_lt_two_pow (Nat.lt_of_lt_of_le hx (show 2 ^ 64≤2 ^ i from Nat.pow_le_pow_right (by omega) hi))]at h;cases h
theorem qf{s:List Nat}{c:Ce}(h:dP s c=true):((dy s).1.lo.x≤c.x∧c.x≤(dy s).1.hi.x)∧((dy s).1.lo.y≤c.y∧c.y≤(dy s).1.hi.y)∧((dy s).1.lo.z≤c.z∧c.z≤(dy s).1.hi.z):=by
 have hc:=dW.2 h
 have h0:¬s=s0:=fun q=>by rw[q,nR]at h;cases h
 have e:(dy s).1=bxS (bn s 512):=by unfold dy;rw[if_neg h0]
 rw[e,tZ]
 exact⟨⟨(qz (·.x) _ 7).2 c hc,(qx (·.x) _ 0).2 c hc⟩,⟨(qz (·.y) _ 7).2 c hc,(qx (·.y) _ 0).2 c hc⟩,⟨(qz (·.z) _ 7).2 c hc,(qx (·.z) _ 0).2 c hc⟩⟩
theorem KZ{s:List Nat}(h0:¬s=s0){x y z:Int}(hx:x≤7)(hy:y≤7)(hz:z≤7)(h:∀c,dP s c=true→x≤c.x∧y≤c.y∧z≤c.z):x≤(dy s).1.lo.x∧y≤(dy s).1.lo.y∧z≤(dy s).1.lo.z:=by
 have e:(dy s).1=bxS (bn s 512):=by unfold dy;rw[if_neg h0]
 rw[e,tZ]
 exact⟨uf (·.x) _ 7 hx fun c hc=>(h c (dW.1 hc)).1,uf (·.y) _ 7 hy fun c hc=>(h c (dW.1 hc)).2.1,uf (·.z) _ 7 hz fun c hc=>(h c (dW.1 hc)).2.2⟩
theorem KA{s:List Nat}(h0:¬s=s0){x y z:Int}(hx:0≤x)(hy:0≤y)(hz:0≤z)(h:∀c,dP s c=true→c.x≤x∧c.y≤y∧c.z≤z):(dy s).1.hi.x≤x∧(dy s).1.hi.y≤y∧(dy s).1.hi.z≤z:=by
 have e:(dy s).1=bxS (bn s 512):=by unfold dy;rw[if_neg h0]
 rw[e,tZ]
 exact⟨tF (·.x) _ 0 hx fun c hc=>(h c (dW.1 hc)).1,tF (·.y) _ 0 hy fun c hc=>(h c (dW.1 hc)).2.1,tF (·.z) _ 0 hz fun c hc=>(h c (dW.1 hc)).2.2⟩
theorem Dh{s:List Nat}{c:Ce}(h:dP s c=true):inG c=true:=by
 cases hq:inG c with
 |true=>rfl
 |false=>rw[fN (by rw[hq];simp)]at h;cases h
theorem uL{s:List Nat}(hs:IsS s)(h0:¬s=s0):∃c,dP s c=true:=by
 cases hl:bn s 512 with
 |nil=>exact absurd (BY hs hl) h0
 |cons c l=>exact⟨c,dW.1 (by rw[hl];exact List.mem_cons_self)⟩
structure Rng (b:Bx) (x y z:Int):Prop where
 x:0≤b.lo.x+x∧b.hi.x+x≤7
 y:0≤b.lo.y+y∧b.hi.y+y≤7
 z:0≤b.lo.z+z∧b.hi.z+z≤7
theorem Rng.all{s:List Nat}{x y z:Int}(r:Rng (dy s).1 x y z){c:Ce}(h:dP s c=true):inG (shC x y z c)=true:=by
 obtain⟨h1,h2,h3⟩:=qf h
 obtain⟨r1,r2,r3⟩:=r
 refine mD.2 ⟨?_,?_,?_⟩<;>(unfold shC;dsimp only;omega)
theorem De{s:List Nat}(hs:IsS s){x y z:Int}(r:Rng (dy s).1 x y z){m i:Nat}(hm:m<8)(hi:i<64):
 dP (gV s (dy s).1 x y z) (fC m i)=true↔ ∃c,dP s c=true∧shC x y z c=fC m i:=by
 have hall:∀c,dP s c=true→inG (shC x y z c)=true:=fun c hc=>r.all hc
 have hbx:=fun c hc=> @qf s c hc
 obtain⟨⟨bl1,bl2,bl3⟩,⟨bh1,bh2,bh3⟩⟩:=jR s
 obtain⟨_,_,r3⟩:=r
 unfold gV
 generalize(dy s).1=b at*
 rw[fh hm hi]
 by_cases hlh:b.lo.z≤b.hi.z
 ·rw[tj hs (by omega) (by omega) m hm]
  have hcond:((b.lo.z.toNat:Int)+z≤(m:Int)∧(m:Int)<(b.lo.z.toNat:Int)+z+((b.hi.z-b.lo.z+1).toNat:Nat))↔(b.lo.z+z≤m∧(m:Int)≤b.hi.z+z):=by omega
  by_cases hq:b.lo.z+z≤m∧(m:Int)≤b.hi.z+z
  ·rw[if_pos (hcond.2 hq),Ip hi,Bool.and_eq_true,decide_eq_true_eq]
   constructor
   ·rintro⟨h1,h2⟩
    have hi':=Hr (hs.jW _) h2
    have hm':((m:Int)-z).toNat<8:=by omega
    have hc:dP s (fC ((m:Int)-z).toNat ((i:Int)-(8*y+x)).toNat)=true:=by rw[fh hm' hi'];exact h2
    refine⟨_,hc,?_⟩
    obtain⟨q1,q2,q3⟩:=mD.1 (hall _ hc)
    unfold shC fC at q1 q2 q3⊢
    dsimp only at q1 q2 q3⊢
    congr 1<;>omega
   ·rintro⟨c,hc,e⟩
    obtain⟨m',i',hm',hi',rfl⟩:=gU (Dh hc)
    rw[fh hm' hi']at hc
    unfold shC fC at e
    injection e with e1 e2 e3
    dsimp only at e1 e2 e3
    have e4:((m:Int)-z).toNat=m':=by omega
    have e5:((i:Int)-(8*y+x)).toNat=i':=by omega
    rw[e4,e5]
    exact⟨by omega,hc⟩
  ·rw[if_neg (fun q=>hq (hcond.1 q)),Nat.zero_testBit]
   constructor
   ·intro h;cases h
   ·rintro⟨c,hc,e⟩
    obtain⟨_,_,h3⟩:=hbx c hc
    unfold shC fC at e
    injection e with e1 e2 e3
    exact absurd ⟨by omega,by omega⟩ hq
 ·have hno:∀c,¬dP s c=true:=fun c hc=>by have:=(hbx c hc).2.2;omega
  rw[show(b.hi.z-b.lo.z+1).toNat=0 by omega]
  constructor
  ·intro h
   unfold jH at h
   have:∀z:Fin 8,s0.getD z.val 0=0:=by decide
   rw[this ⟨m,hm⟩,Nat.zero_testBit]at h;cases h
  ·rintro⟨c,hc,_⟩;exact absurd hc (hno c)
theorem tU{s:List Nat}{x y z:Int}(r:Rng (dy s).1 x y z):IsS (mL (shC x y z) s):=Br fun c hc=>r.all (dW.1 hc)
theorem Bg{s:List Nat}(hs:IsS s){x y z:Int}(r:Rng (dy s).1 x y z):gV s (dy s).1 x y z=mL (shC x y z) s:=by
 refine pY (jy hs _ _ _ _) (tU r) fun m i hm hi=> ?_
 have e1:=De hs r hm hi
 have e2:=pP (f:=shC x y z) (s:=s) (fun c hc=>r.all (dW.1 hc)) (fC m i)
 cases h1:dP (gV s (dy s).1 x y z) (fC m i)with
 |true=>rw[e2.2 (e1.1 h1)]
 |false=>
  cases h2:dP (mL (shC x y z) s) (fC m i)with
  |false=>rfl
  |true=>rw[e1.2 (e2.1 h2)]at h1;cases h1
theorem wQ{lo hi z:Int}:z∈zr lo hi↔lo≤z∧z≤hi:=by
 constructor
 ·intro h
  obtain⟨n,hn,rfl⟩:=List.mem_map.1 h
  have:=List.mem_range.1 hn
  omega
 ·rintro⟨h1,h2⟩
  exact oJ (n:=(z-lo).toNat) (by omega) h2
end Go.A.Pk
end
section
set_option maxRecDepth 100000
namespace Go.A.Pk
variable {T:Nat→Option ak}
structure MY (T:Nat→Option ak):Prop where
 tr:LF T
 f51:T 51=some f51
 f52:T 52=some f52
 f84:T 84=some f84
 f138:T 138=some f138
 f140:T 140=some f140
 f225:T 225=some f225
end Go.A.Pk
end
section
set_option maxRecDepth 100000
namespace Go.A.Pk
variable {T:Nat→Option ak}
def ssL(l:List (List Nat)):List Value:=l.flatMap us
structure SsQ (h:Heap) (v:Value) (l:List (List Nat)):Prop where
 sl:eS h 8 v l.length (ssL l)
 ok:∀s∈l,IsS s
theorem SsQ.ext{h h':Heap}{v:Value}{l:List (List Nat)}(s:SsQ h v l)(x:Ext h h'):SsQ h' v l:=⟨s.sl.ext x,s.ok⟩
theorem SsQ.log{h:Heap}{v:Value}{l:List (List Nat)}(s:SsQ h v l)(m:List Nat):SsQ {h with log:=m} v l:=⟨s.sl.log m,s.ok⟩
theorem Bi:∀{l:List (List Nat)} {i:Nat} {x:List Nat},(∀s∈l,IsS s)→l[i]? =some x→((ssL l).drop (i*8)).take 8=us x
 |[],i,x,_,h=>by simp at h
 |c::l,0,x,hl,h=>by
  simp at h;subst h
  have e:ssL (c::l)=us c++ssL l:=rfl
  have e8:(us c).length=8:=by rw[aJ,(hl c List.mem_cons_self).len]
  rw[e,Nat.zero_mul,List.drop_zero,List.take_append_of_le_length (by omega),List.take_of_length_le (by omega)]
 |c::l,i+1,x,hl,h=>by
  have e:ssL (c::l)=us c++ssL l:=rfl
  have e8:(us c).length=8:=by rw[aJ,(hl c List.mem_cons_self).len]
  have e2:(us c++ssL l).drop 8=ssL l:=by rw[←e8];exact List.drop_left
  rw[e,show(i+1)*8=8+i*8 by omega,←List.drop_drop,e2]
  exact Bi (fun s hs=>hl s (List.mem_cons_of_mem _ hs)) (by simpa using h)
theorem SsQ.elem{h:Heap}{v:Value}{l:List (List Nat)}(s:SsQ h v l){i:Nat}{x:List Nat}(hi:l[i]? =some x):
 ∃b o c vs own t,v= .slice (some ⟨b,o,none⟩) l.length c∧h.get b=some (.cells vs own t)∧b<h.next∧cG 8 (bX (o+i*8) vs)=us x:=by
 have hlt:=(List.getElem?_eq_some_iff.1 hi).1
 rcases eS.inv s.sl with⟨_,_,h0,_⟩|⟨b,o,cap,hv,s1,hc⟩
 ·omega
 ·obtain⟨vs,own,t,g1,g2⟩:=s1.obj
  refine⟨b,o,cap,vs,own,t,hv,g1,s1.lt,?_⟩
  rw[←Bi s.ok hi,←g2]
  simp only[dV,cA,List.drop_take,List.take_take,List.drop_drop]
  congr 1;omega
theorem AY{h:Heap}{e:Env}{x:Operand}{s:List Nat}(hs:IsS s)(hx:ev h e x=some (sv s)):jA h e (eN 1 (aU 8 (.int .u64 0))) [(0,8,x)]=some (us s):=by
 have e1:cellsOf (sv s)=us s:=by show(us s).toArray.toList=_;simp
 have h0:eN 1 (aU 8 (.int .u64 0))=us s0:=rfl
 have e2:cD (us s0) 0 (us s)=us s:=by
  rw[jc (by rw[aJ,aJ,hs.len];decide),aJ,hs.len,List.take_zero]
  simp[us,s0]
 have e3:bR (us s)=8:=by rw[bV,aJ,hs.len]
 rw[h0]
 simp only[jA,hx,e1,e2,e3];rfl
structure Jx (T:Nat→Option ak):Prop where
 rf:MY T
 f31:T 31=some f31
 f49:T 49=some f49
 f93:T 93=some f93
theorem Kk(F:Jx T){h:Heap}(hr:Rdy h){w:List Nat×List Nat}(hw:IsW w):Pu T 31 [wV w] h (.int .i64 (if sIn w.1 w.2 then 0 else 1)):=by
 have hp:=F.rf.tr.cr.hr.p
 refine .of hp F.f31 hr rfl ?_
 have hwc:cellsOf (wV w)=wL w:=by show(wL w).toArray.toList=_;simp
 have g0:(h.push (.cells (cellsOf (wV w)) true 1)).get h.next=some (.cells (wL w) true 1):=by rw[hwc];exact z3 h _
 have W:WF (h.push (.cells (cellsOf (wV w)) true 1)):=hr.wf.push _
 have hL:(h.push (.cells (cellsOf (wV w)) true 1)).log=[]:=hr.log
 refine y4 ?_;refine yB ?_;refine yM ?_;refine y3 ?_
 generalize(h.push (.cells (cellsOf (wV w)) true 1))=H at*
 have C:=LL hp F.rf.f52 F.rf.f140 (h:={H with log:=[]}) (.of W) hw.a hw.b
 have wa:=zi hw
 have wb:=wY hw
 have wka:=aV hw.a.len
 have wkb:=aV hw.b.len
 cases hin:sIn w.1 w.2 with
 |true=>
  rw[hin]at C
  rw[if_pos rfl]
  refine aq ?_;refine y4 ?_;refine yF ?_;refine aa (au (by exact rfl) (by assumption) (by assumption) (by assumption)) ?_;refine yF ?_;refine aa (au (by exact rfl) (by assumption) (by assumption) (by assumption)) ?_
  refine yC ?_
  refine FW.pu C ?_
  refine yA ?_;refine y3 ?_;refine yX ?_;refine aM ?_;refine br ?_;refine y4 ?_;refine yM ?_;refine y3 ?_;refine aP ?_
  exact aH hL rfl rfl
 |false=>
  rw[hin]at C
  rw[if_neg (by simp)]
  refine aq ?_;refine y4 ?_;refine yF ?_;refine aa (au (by exact rfl) (by assumption) (by assumption) (by assumption)) ?_;refine yF ?_;refine aa (au (by exact rfl) (by assumption) (by assumption) (by assumption)) ?_
  refine yC ?_
  refine FW.pu C ?_
  refine yA ?_;refine y3 ?_;refine yY ?_;refine y4 ?_;refine yM ?_;refine y3 ?_;refine aP ?_;refine eO ?_
  exact aH hL rfl rfl
end Go.A.Pk
end
section
namespace Go.A
open Go.Sort
variable {P:Program}
theorem JB{μ:Mu}{h:Heap}:∀(l:List Obj) {w:World},R P μ h w→R P μ h (Sort.grow w l.toArray)∧St μ h w μ h (Sort.grow w l.toArray)
 |[],w,hR=>by
  have e:Sort.grow w #[]=w:=grow_empty w
  rw[e];exact⟨hR, .refl _ _ _⟩
 |o::l,w,hR=>by
  have e:Sort.grow w (o::l).toArray=Sort.grow (w.alloc o) l.toArray:=by
   rw[alloc_eq_grow,grow_grow]
   congr 1
   apply Array.toList_inj.1
   simp
  rw[e]
  obtain⟨r1,s1⟩:=hR.Db (w':=w.alloc o) rfl
  obtain⟨r2,s2⟩:=JB l r1
  exact⟨r2,s1.trans s2 (Nat.le_refl _)⟩
end Go.A
end
