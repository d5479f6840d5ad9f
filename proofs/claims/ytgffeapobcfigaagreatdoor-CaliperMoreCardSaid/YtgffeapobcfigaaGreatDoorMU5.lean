/- Walks of functions, plain laws, the table. -/
import Derived.Test.YtgffeapobcfigaaGreatDoorMU4
import Derived.Test.YtgffeapobcfigaaGreatDoorMD
import Derived.Test.YtgffeapobcfigaaGreatDoorMF
import Derived.Test.YtgffeapobcfigaaGreatDoorMU3
import Derived.Test.YtgffeapobcfigaaGreatDoorMU0
import Derived.Test.YtgffeapobcfigaaGreatDoorMH
import Derived.Test.YtgffeapobcfigaaGreatDoorMT
import Derived.KernelRfl
set_option linter.all false
section
set_option maxRecDepth 100000
namespace Go.A.Pk
variable {T:Nat→Option af}
section
open I
def CU:aY:=(I.R [M 10 32] [2,3,7,10])
def CV:aY:=(.block 1 (.draw [L 33 7,L 34 2,g 35 (.cg (t 34)),A 36 16 35,L 37 36,M 38 10,g 39 (.aU 9 (t 37) (t 38)),A 40 8 39,L 41 40,L 42 2,N 43 8 3,M 44 10,g 45 (.call (.func 149) [(t 43),(t 44),(.const (.int .u8 1))]),g 46 (.call (.func 128) [(t 42),(t 45)]),L 47 2,N 48 8 3,M 49 10,g 50 (.call (.func 149) [(t 48),(t 49),(.const (.int .u8 2))]),g 51 (.call (.func 128) [(t 47),(t 50)]),g 52 (.ei true [(t 46),(t 51)]),B 53 .add 41 52,g 54 (.ei false [(t 33),(t 53)]),S 1 7 54] [0,1,2,3,4,5,6,7,8,9,10,11,14,15,16,12,13,17,18,19,20,21,22] [0,0,2,6,14,0,62,126,254,0,0,0,3072,7680,0,0,0,114176,261632,523776,1048574,2097151,4194303] []))
end
theorem My(a b:Int):mi a b=min a b:=by unfold mi;split<;>omega
theorem MA(a b:Int):mx a b=max a b:=by unfold mx;split<;>omega
def NT(m:Nat)(w:List Nat×List Nat)(l:List Pb)(ns:List (List (List Nat)))(f:List Nat)(v:Value)(h':Heap):Prop:=v= .int .i64 (fu w l ns f)∧∃mm,h'.get m=some (.map (kM mm))∧pV w l ns mm
structure EG (T:Nat→Option af):Prop where
 op:yy T
 f128:T 128=some f128
theorem C7{l:List Pb}{p:Nat}{x:Pb}(h:l[p]? =some x):gW l p=x.cost:=by
 unfold gW;rw[List.getD_eq_getElem?_getD,h];rfl
set_option maxHeartbeats 16000000 in
theorem Es(F:EG T){H:Heap}(hr:Rdy H){q m:Nat}{w:List Nat×List Nat}{pv nv ov:Value}{l:List Pb}{os:List (List Nat)}{ns:List (List (List Nat))}(hc:∀p∈l,1≤p.cost∧p.cost≤1000)(Qh:QuH H q m w pv nv ov l os ns){f:List Nat}(hf:f.length=8)
 {lp b2 b3 nb p:Nat}{fn:Value}{n0:Int}(gl:H.get lp=some (.loop [(2, .pointer (some ⟨b2,0,none⟩)),(3, .pointer (some ⟨b3,0,none⟩)),(7, .pointer (some ⟨nb,0,none⟩)),(31,fn)] [32] CU CV 0 .normal))
 (g2:H.get b2=some (.cells [.pointer (some ⟨q,0,none⟩)] true 1))(g3:H.get b3=some (.cells (fL f) true 1))(g7:H.get nb=some (.cells [.int .i64 n0] true 1))(h27:b2≠nb)(h37:b3≠nb)(hq7:q≠nb)(hpl:p<l.length)
 (IH:∀a,a=1∨a=2→∀{h:Heap},Rdy h→QuH h q m w pv nv ov l os ns→Gs T 128 [.pointer (some ⟨q,0,none⟩),fV (f.set p a)] h (fun z=>z=m) (NT m w l ns (f.set p a))):
 FW T (.yield lp) [.int .i64 (p:Nat)] H fun r H'=>(∀z∈H'.log,z=m∨z=nb∨z=lp)∧(r= .ret (.bool true)∧((∀z,z<H.next→z≠m→z≠nb→H'.get z=H.get z)∧H.next≤H'.next∧H'.get nb=some (.cells [.int .i64 (min n0 (gW l p+max (fu w l ns (f.set p 1)) (fu w l ns (f.set p 2))))] true 1)∧∃mm,H'.get m=some (.map (kM mm))∧pV w l ns mm)∨r= .ret (.bool false)∧lp∈H'.log∧False):=by
 have kl:=hr.wf.ef gl
 obtain⟨mm0,gm0,hmm0⟩:=Qh.mem
 have km:=hr.wf.ef gm0
 have k2:=hr.wf.ef g2
 have k3:=hr.wf.ef g3
 have k7:=hr.wf.ef g7
 have kq:=hr.wf.ef Qh.gq
 have n2l:b2≠lp:=fun e=>by rw[e,gl]at g2;cases g2
 have n3l:b3≠lp:=fun e=>by rw[e,gl]at g3;cases g3
 have n7l:nb≠lp:=fun e=>by rw[e,gl]at g7;cases g7
 have nml:m≠lp:=fun e=>by rw[e,gl]at gm0;cases gm0
 have n2m:b2≠m:=fun e=>by rw[e,gm0]at g2;cases g2
 have n3m:b3≠m:=fun e=>by rw[e,gm0]at g3;cases g3
 have n7m:nb≠m:=fun e=>by rw[e,gm0]at g7;cases g7
 have nql:q≠lp:=fun e=>by have:=Qh.gq;rw[e,gl]at this;cases this
 have nqm:q≠m:=fun e=>by have:=Qh.gq;rw[e,gm0]at this;cases this
 refine FW.NM F.op.qu.p (.inl rfl) (R:=fun H'=>(∀z,z<H.next→z≠m→z≠nb→H'.get z=H.get z)∧H.next≤H'.next∧H'.get nb=some (.cells [.int .i64 (min n0 (gW l p+max (fu w l ns (f.set p 1)) (fu w l ns (f.set p 2))))] true 1)∧∃mm,H'.get m=some (.map (kM mm))∧pV w l ns mm) (S:=fun _=>False) (W:=fun z=>z=m∨z=nb∨z=lp) gl rfl kl (.inr (.inr rfl)) ?_
 unfold CU
 refine aJ ?_;refine yM ?_;refine dN ?_;refine y1 ?_
 refine⟨rfl,gl,?_⟩
 unfold CV
 refine aK ?_
 refine WE.wR ?_
 intro hA hAe
 have A1:∀z,z<H.next→z≠lp→H.get z=hA.get z:=fun z hz hne=>by rw[hAe];exact(z5 hne).symm
 have A2:hA.get lp=some (.loop [(2, .pointer (some ⟨b2,0,none⟩)),(3, .pointer (some ⟨b3,0,none⟩)),(7, .pointer (some ⟨nb,0,none⟩)),(31,fn)] [32] CU CV 1 .normal):=by rw[hAe];exact Heap.bB gl
 have A5:hA.next=H.next:=by rw[hAe];rfl
 have A6:hA.log=[]:=by rw[hAe,Heap.aN (by omega)];exact hr.log
 have A7:WF hA:=by rw[hAe];exact hr.wf.as (AS.wr _ _ _ _)
 clear hAe
 have a2:=(A1 b2 k2 n2l).symm.trans g2
 have a3:=(A1 b3 k3 n3l).symm.trans g3
 have a7:=(A1 nb k7 n7l).symm.trans g7
 have am:=(A1 m km nml).symm.trans gm0
 have hne:∀(b:Nat) vs own sz,H.get b=some (.cells vs own sz)→b≠lp:=fun b vs own sz g e=>by rw[e,gl]at g;cases g
 have keepL:∀{sz n:Nat} {v:Value} {cs:List Value},bK H sz v n cs→bK hA sz v n cs:=fun {sz n v cs} s=>by
  cases s with
  |nil=>exact .nil
  |mem s hc=>
   obtain⟨vs,own,t,u1,u2⟩:=s.obj
   exact .mem ⟨by rw[A5];exact s.lt,⟨vs,own,t,(A1 _ s.lt (hne _ _ _ _ u1)).symm.trans u1,u2⟩,s.len⟩ hc
 have QA:QuH hA q m w pv nv ov l os ns:=by
  obtain⟨vals,s1,s2⟩:=Qh.sn.ex
  exact⟨Qh.hw,(A1 q kq nql).symm.trans Qh.gq,⟨keepL Qh.sp.sl,Qh.sp.ok⟩,Qh.hl,⟨keepL Qh.so.sl,Qh.so.ok⟩,Qh.hol,⟨vals,keepL s1,fun i r hi=>by
   obtain⟨v,hv,sv⟩:=s2 i r hi
   exact⟨v,hv,⟨keepL sv.sl,sv.ok⟩⟩⟩,Qh.hns,Qh.hrn,⟨mm0,am,hmm0⟩⟩
 clear keepL hne g2 g3 g7 gm0
 obtain⟨x,hx⟩:∃x,l[p]? =some x:=⟨l[p],List.getElem?_eq_getElem hpl⟩
 have hl8:=Qh.hl
 have hp8:p<8:=by omega
 obtain⟨b,o,cp,vs,own,tt,hpv,gb,hbl,gat⟩:=QA.sp.elem hx
 subst hpv
 have hcost:=C7 hx
 have hcx:=hc x (List.mem_of_getElem? hx)
 have kc:=gat.cost
 have hw:=Qh.hw
 have gqA:=QA.gq
 have kp:=Cu hw (.slice (some ⟨b,o,none⟩) l.length cp) nv ov (.map (some m))
 have kf8:=ri hf
 have kf9:=oh hf
 have hc0:∀p∈l,0≤p.cost:=fun p hp=>by have:=(hc p hp).1;omega
 have v1:=CM (w:=w) (ns:=ns) hc0 (f.set p 1)
 have v2:=CM (w:=w) (ns:=ns) hc0 (f.set p 2)
 have madd:aA .add (.int .i64 x.cost) (.int .i64 (mx (fu w l ns (f.set p 1)) (fu w l ns (f.set p 2))))=some (.int .i64 (x.cost+mx (fu w l ns (f.set p 1)) (fu w l ns (f.set p 2)))):=by
  have:mx (fu w l ns (f.set p 1)) (fu w l ns (f.set p 2))≤100000∧0≤mx (fu w l ns (f.set p 1)) (fu w l ns (f.set p 2)):=by unfold mx;split<;>omega
  exact nE (cQ (by omega) (by omega))
 have C1:=CO F.op (h:={hA with log:=[]}) (.of A7) hf hp8 (a:=1)
 have I1:=IH 1 (.inl rfl) (h:={hA with log:=[]}) (.of A7) (QA.log [])
 have nb7:b≠nb∨b=nb:=by omega
 refine cV ?_;refine qL ?_;refine qL ?_;refine aM rfl rfl rfl (by exact rfl) (by exact rfl) (by exact rfl) (cA (by exact rfl)) ?_
 refine qF ?_;refine qK ?_;refine qM ?_
 refine qI ?_;refine qF ?_;refine qK ?_
 refine qL ?_;refine qV ?_;refine qM ?_
 refine qL ?_;refine qV ?_;refine qM ?_
 refine qC ?_
 refine FW.puD C1 (by apply aB rfl (aq rfl (fC (by exact rfl)) (by exact dZ _ _)) rfl;apply aB rfl (aq rfl (ct (by exact rfl) (by assumption) (by assumption) (by assumption)) (by exact CK _)) rfl;apply aB rfl (aq rfl (bO (by exact rfl) (by assumption) (by exact rfl)) (by exact bT _)) rfl;(repeat apply aP rfl);apply aB rfl (aq rfl (bO (by exact rfl) (by assumption) (by exact rfl)) (by exact bT _)) rfl;apply aB rfl (aq rfl (bO (by exact rfl) (by assumption) (by assumption)) (by exact dZ _ _)) rfl;apply aB rfl (aq rfl (dz (by exact rfl)) (by exact bT _)) rfl;apply aB rfl (aq rfl (lH (by exact rfl) (by exact rfl) (by omega)) (by exact bT _)) rfl;apply aB rfl (aq rfl (fC (by exact rfl)) (by exact dZ _ _)) rfl;apply aB rfl (aq rfl (bO (by exact rfl) (by assumption) (by assumption)) (by exact fq _ _ _)) rfl;apply aB rfl (aq rfl (dz (by exact rfl)) (by exact bT _)) rfl;apply aB rfl (aq rfl (cA (by exact rfl)) (by exact bT _)) rfl;apply aB rfl (aq rfl (bO (by exact rfl) (by assumption) (by exact rfl)) (by exact bT _)) rfl;apply aB rfl (aq rfl (bO (by exact rfl) (by assumption) (by exact rfl)) (by exact dZ _ _)) rfl;exact cC) ?_
 clear C1
 skip
 refine qC ?_
 refine FW.gsD I1 (fun v h' lg q=>q) ?_
 clear I1
 rintro _ hB lg xB hlg ⟨rfl,mmB,gmB,hmB⟩
 have nB:=xB.next
 have oB:∀z,z<hA.next→z≠m→hB.get z=hA.get z:=fun z hz hne=>xB.old z hz hne
 have WB:=xB.wf A7
 have QB:QuH hB q m w (.slice (some ⟨b,o,none⟩) l.length cp) nv ov l os ns:=QA.keep A7 nB oB ⟨mmB,gmB,hmB⟩
 have c2:=(oB b2 (by omega) n2m).trans a2
 have c3:=(oB b3 (by omega) n3m).trans a3
 have c7:=(oB nb (by omega) n7m).trans a7
 have cq:=QB.gq
 have nbm:b≠m:=fun e=>by rw[e,am]at gb;cases gb
 have cb:=(oB b hbl nbm).trans gb
 have hlB:∀z∈hB.log,z=m:=fun z hz=>(xB.log z hz).elim (fun q=>by rw[A6]at q;cases q) id
 have C2:=CO F.op (h:={hB with log:=[]}) (.of WB) hf hp8 (a:=2)
 have I2:=IH 2 (.inr rfl) (h:={hB with log:=[]}) (.of WB) (QB.log [])
 refine⟨_,by apply aB rfl (aq rfl (fC (by exact rfl)) (by exact dZ _ _)) rfl;apply aB rfl (aq rfl (ct (by exact rfl) (by assumption) (by assumption) (by assumption)) (by exact CK _)) rfl;apply aB rfl (aq rfl (bO (by exact rfl) (by assumption) (by exact rfl)) (by exact bT _)) rfl;apply aP rfl;apply aB rfl (aq rfl (bO (by exact rfl) (by assumption) (by assumption)) (by exact dZ _ _)) rfl;apply aB rfl (aq rfl (dz (by exact rfl)) (by exact bT _)) rfl;apply aB rfl (aq rfl (lH (by exact rfl) (by exact rfl) (by omega)) (by exact bT _)) rfl;apply aB rfl (aq rfl (fC (by exact rfl)) (by exact dZ _ _)) rfl;apply aB rfl (aq rfl (bO (by exact rfl) (by assumption) (by assumption)) (by exact fq _ _ _)) rfl;apply aB rfl (aq rfl (dz (by exact rfl)) (by exact bT _)) rfl;apply aB rfl (aq rfl (cA (by exact rfl)) (by exact bT _)) rfl;apply aB rfl (aq rfl (bO (by exact rfl) (by assumption) (by exact rfl)) (by exact bT _)) rfl;apply aB rfl (aq rfl (bO (by exact rfl) (by assumption) (by exact rfl)) (by exact dZ _ _)) rfl;exact cC,?_⟩
 clear a2 a3 a7 gqA gb
 skip
 refine qC ?_
 refine FW.puD C2 (by(repeat apply aP rfl);apply aB rfl (aq rfl (bO (by exact rfl) (by assumption) (by exact rfl)) (by exact bT _)) rfl;apply aB rfl (aq rfl (bO (by exact rfl) (by assumption) (by assumption)) (by exact dZ _ _)) rfl;apply aB rfl (aq rfl (dz (by exact rfl)) (by exact bT _)) rfl;apply aB rfl (aq rfl (lH (by exact rfl) (by exact rfl) (by omega)) (by exact bT _)) rfl;apply aB rfl (aq rfl (fC (by exact rfl)) (by exact dZ _ _)) rfl;apply aB rfl (aq rfl (bO (by exact rfl) (by assumption) (by assumption)) (by exact fq _ _ _)) rfl;apply aB rfl (aq rfl (dz (by exact rfl)) (by exact bT _)) rfl;apply aB rfl (aq rfl (cA (by exact rfl)) (by exact bT _)) rfl;apply aB rfl (aq rfl (bO (by exact rfl) (by assumption) (by exact rfl)) (by exact bT _)) rfl;apply aB rfl (aq rfl (bO (by exact rfl) (by assumption) (by exact rfl)) (by exact dZ _ _)) rfl;exact cC) ?_
 clear C2
 skip
 refine qC ?_
 refine FW.gsD I2 (fun v h' lg q=>q) ?_
 clear I2
 rintro _ hC lg2 xC hlg2 ⟨rfl,mmC,gmC,hmC⟩
 have nC:=xC.next
 have oC:∀z,z<hB.next→z≠m→hC.get z=hB.get z:=fun z hz hne=>xC.old z hz hne
 have WC:=xC.wf WB
 have d2:=(oC b2 (by omega) n2m).trans c2
 have d3:=(oC b3 (by omega) n3m).trans c3
 have d7:=(oC nb (by omega) n7m).trans c7
 have dq:=(oC q (by omega) nqm).trans cq
 have db:=(oC b (by omega) nbm).trans cb
 have dl:=(oC lp (by omega) (Ne.symm nml)).trans ((oB lp (by omega) (Ne.symm nml)).trans A2)
 have hlC:∀z∈hC.log,z=m:=fun z hz=>(xC.log z hz).elim (hlB z) id
 refine⟨_,by apply aP rfl;apply aB rfl (aq rfl (bO (by exact rfl) (by assumption) (by assumption)) (by exact dZ _ _)) rfl;apply aB rfl (aq rfl (dz (by exact rfl)) (by exact bT _)) rfl;apply aB rfl (aq rfl (lH (by exact rfl) (by exact rfl) (by omega)) (by exact bT _)) rfl;apply aB rfl (aq rfl (fC (by exact rfl)) (by exact dZ _ _)) rfl;apply aB rfl (aq rfl (bO (by exact rfl) (by assumption) (by assumption)) (by exact fq _ _ _)) rfl;apply aB rfl (aq rfl (dz (by exact rfl)) (by exact bT _)) rfl;apply aB rfl (aq rfl (cA (by exact rfl)) (by exact bT _)) rfl;apply aB rfl (aq rfl (bO (by exact rfl) (by assumption) (by exact rfl)) (by exact bT _)) rfl;apply aB rfl (aq rfl (bO (by exact rfl) (by assumption) (by exact rfl)) (by exact dZ _ _)) rfl;exact cC,?_⟩
 clear c2 c3 c7 cq cb
 refine aM rfl rfl rfl (by exact rfl) (by exact rfl) (by exact rfl) (tg (by exact rfl) (by exact rfl)) ?_;refine qW ?_;refine aM rfl rfl rfl (by exact rfl) (by exact rfl) (by exact rfl) (oQ (by exact rfl) (by exact rfl)) ?_
 refine gP rfl rfl rfl (by exact rfl) (by exact rfl) (by exact rfl) d7 (by exact rfl) (by exact rfl) (show nb<hC.next by omega) (by(repeat apply aP rfl);exact cC) ?_
 refine dy ?_;refine y1 ?_;refine ff ?_
 refine⟨⟨_,(z5 (Ne.symm n7l)).trans dl,rfl⟩,fun z hz=> ?_, .inl ⟨rfl,fun h5 hn5 ha5 hl5=>⟨fun z hz h1 h2=> ?_,by omega,?_,mmC,?_,hmC⟩⟩⟩
 ·rcases dO hz with rfl|hz
  ·exact .inr (.inl rfl)
  ·exact .inl (hlC z hz)
 ·by_cases hzl:z=lp
  ·subst hzl
   exact hl5.trans gl.symm
  ·exact(ha5 z hz hzl).trans ((z5 h2).trans ((oC z (by omega) h1).trans ((oB z (by omega) h1).trans (A1 z hz hzl).symm)))
 ·rw[ha5 nb k7 n7l,hcost,←MA,←My]
  (simp(disch:=first|omega|(simp only[z1,z2];omega))only[z3,z4,z5,z6,z7,z1,z2,gl,A2,am,gmB,gmC,d2,d3,d7,dq,db,dl,hl5];exact rfl)
 ·exact(ha5 m km nml).trans ((z5 (Ne.symm n7m)).trans gmC)
structure I8 (N m nb:Nat) (w:List Nat×List Nat) (l:List Pb) (ns:List (List (List Nat))) (H0:Heap) (L:bJ) (g:Nat→Int) (done:List Nat) (H:Heap):Prop where
 old:∀z,z<N→z≠m→z≠nb→H.get z=H0.get z
 n:H.get nb=some (.cells [.int .i64 (mnF g done 100000)] true 1)
 mem:∃mm,H.get m=some (.map (kM mm))∧pV w l ns mm
 loop:H.get N=some L
 nx:N<H.next
set_option maxHeartbeats 16000000 in
theorem ID(F:EG T){q m:Nat}{w:List Nat×List Nat}{pv nv ov:Value}{l:List Pb}{os:List (List Nat)}{ns:List (List (List Nat))}(hc:∀p∈l,1≤p.cost∧p.cost≤1000):∀(k:Nat) {h:Heap},Rdy h→QuH h q m w pv nv ov l os ns→∀{f:List Nat},f.length=8→(gL l.length f).length≤k→
 Gs T 128 [.pointer (some ⟨q,0,none⟩),fV f] h (fun z=>z=m) (NT m w l ns f):=by
 intro k
 induction k using Nat.strongRecOn with
 |ind k ih=>
 intro h hr Qh f hf hk
 obtain⟨mm,gm,hmm⟩:=Qh.mem
 have km:=hr.wf.ef gm
 have kq:=hr.wf.ef Qh.gq
 refine Gs.of F.op.qu.p F.f128 (fun v h1 h2 _ hn ha ⟨e,mm,g,hm⟩=>⟨e,mm,(ha m km).trans g,hm⟩) ?_
 have hfc:=kA f
 have x0:Ext h ((h.push (.cells (cellsOf (.pointer (some ⟨q,0,none⟩))) true 1)).push (.cells (cellsOf (fV f)) true 1)):=((Ext.refl h).push _).push _
 have g2:((h.push (.cells (cellsOf (.pointer (some ⟨q,0,none⟩))) true 1)).push (.cells (cellsOf (fV f)) true 1)).get h.next=some (.cells [.pointer (some ⟨q,0,none⟩)] true 1):=(z4 (Nat.lt_succ_self _)).trans (z3 h _)
 have g3:((h.push (.cells (cellsOf (.pointer (some ⟨q,0,none⟩))) true 1)).push (.cells (cellsOf (fV f)) true 1)).get (h.next+1)=some (.cells (fL f) true 1):=by rw[←hfc];exact z3 _ _
 have n0:((h.push (.cells (cellsOf (.pointer (some ⟨q,0,none⟩))) true 1)).push (.cells (cellsOf (fV f)) true 1)).next=h.next+2:=rfl
 refine y4 ?_;refine yB ?_;refine yB ?_;refine yM ?_;refine y3 ?_
 generalize((h.push (.cells (cellsOf (.pointer (some ⟨q,0,none⟩))) true 1)).push (.cells (cellsOf (fV f)) true 1))=H at*
 have hnx:(h.push (.cells (cellsOf (.pointer (some ⟨q,0,none⟩))) true 1)).next=h.next+1:=rfl
 rw[hnx]
 clear hnx
 have W:=x0.wf hr.wf
 have hL:=x0.log.trans hr.log
 have QH:=Qh.ext hr.wf x0
 have gqH:=QH.gq
 have gmH:=(x0.old m km).trans gm
 have hw:=Qh.hw
 have kmv:=PB hw pv nv ov (.map (some m))
 have kf8:=ri hf
 have kf9:=oh hf
 have h8:∀x∈mm,x.1.length=8:=fun x hx=>(hmm x hx).1
 have hlog0:∀z∈H.log,z=m:=fun z hz=>by rw[hL]at hz;cases hz
 cases hfi:oM f 0 mm with
 |some p=>
  obtain⟨j,v⟩:=p
  have hv:v=fu w l ns f:=(hmm _ (vK hfi)).2
  subst hv
  refine ah ?_;refine ah ?_;refine cV ?_;refine qL ?_;refine aM rfl rfl rfl (by exact rfl) (by exact rfl) (by exact rfl) (cA (by exact rfl)) ?_;refine qF ?_
  refine qK ?_;refine qV ?_
  refine aM rfl rfl rfl (by exact rfl) (by exact rfl) (by exact rfl) (BS (mm:=mm) (f:=f) (by exact rfl) (by exact rfl) gmH hf h8 (u:= .tuple #[.int .i64 (fu w l ns f), .bool true]) (by rw[hfi])) ?_
  refine qM ?_;refine qE ?_;refine qE ?_
  refine qM ?_;refine qM ?_;refine dy ?_;refine y1 ?_;refine aV ?_;refine y4 ?_
  refine yM ?_;refine y3 ?_;refine yY ?_;refine y4 ?_;refine yM ?_;refine yM ?_;refine y3 ?_;refine aG ?_;refine eW ?_
  exact jd hlog0 rfl ⟨rfl,mm,gmH,hmm⟩
 |none=>
 refine ah ?_;refine ah ?_;refine cV ?_;refine qL ?_;refine aM rfl rfl rfl (by exact rfl) (by exact rfl) (by exact rfl) (cA (by exact rfl)) ?_;refine qF ?_
 refine qK ?_;refine qV ?_
 refine aM rfl rfl rfl (by exact rfl) (by exact rfl) (by exact rfl) (BS (mm:=mm) (f:=f) (by exact rfl) (by exact rfl) gmH hf h8 (u:= .tuple #[.int .i64 0, .bool false]) (by rw[hfi])) ?_
 refine qM ?_;refine qE ?_;refine qE ?_
 refine qM ?_;refine qM ?_;refine dy ?_;refine y1 ?_;refine aV ?_;refine y4 ?_
 refine yM ?_;refine y3 ?_;refine yX ?_;refine aH ?_;refine aV ?_
 refine fB (E0:=[(2, .pointer (some ⟨h.next,0,none⟩)),(3, .pointer (some ⟨h.next+1,0,none⟩)),(7, .pointer (some ⟨H.next,0,none⟩))]) (P:=fun h'=>Ext H h'∧h'.next=H.next+1∧h'.get H.next=some (.cells [.int .i64 0] true 1)) ?_ ?_
 ·refine aJ ?_;refine an (dL) ?_;refine yS ?_ (hb:=z3 _ _);refine dN ?_
  refine y1 ?_
  exact⟨rfl,rfl,rfl,iC (by omega) _ _,rfl,jB _ _⟩
 rintro H3 ⟨x3,n3,g7⟩
 have W3:=x3.wf W
 have hL3:=x3.log.trans hL
 have Q3:=QH.ext W x3
 have gq3:=Q3.gq
 have g23:=(x3.old _ (by omega)).trans g2
 have g33:=(x3.old _ (by omega)).trans g3
 have gm3:=(x3.old _ (by omega)).trans gmH
 clear g2 g3 gqH gmH
 have C1:=J9 F.op (h:={H3 with log:=[]}) (.of W3) (Q3.log []) hf
 have heq:=KW (w:=w) (l:=l) (ns:=ns) (f:=f) (by have:=Qh.hl;omega)
 generalize bsB w (l.zip f)=can at*
 cases ho:kU w l ns f with
 |false=>
  rw[ho]at C1 heq
  have hput:=hmm.put hf
  rw[heq,if_neg (by simp)]at hput
  refine ah ?_;refine y4 ?_;refine yL ?_;refine yV ?_
  refine yC ?_
  refine FW.pu C1 ?_
  clear C1
  refine yM ?_;refine yE ?_;refine yE ?_;refine yM ?_;refine yM ?_;refine y3 ?_;refine y4 ?_;refine yM ?_;refine y3 ?_;refine yX ?_;refine aH ?_;refine aV ?_;refine ah ?_;refine cV ?_
  refine qL ?_;refine aM rfl rfl rfl (by exact rfl) (by exact rfl) (by exact rfl) (cA (by exact rfl)) ?_;refine qF ?_
  refine qK ?_;refine qV ?_
  refine qL ?_
  refine wA (mm:=mm) (f:=f) (n:=0) rfl rfl rfl (by exact rfl) (by exact rfl) (by exact rfl) (by exact rfl) gm3 hf h8 (by omega) (by(repeat apply aP rfl);exact cC) ?_
  refine dy ?_;refine y1 ?_;refine aV ?_;refine y4 ?_
  refine yL ?_ (hb:=(z5 (by omega)).trans g7);refine yM ?_;refine y3 ?_;refine aG ?_
  exact jd (fun z hz=>(dO hz).elim id fun q=>by rw[hL3]at q;cases q) rfl ⟨by rw[heq];rfl,_,Heap.bB gm3,hput⟩
 |true=>
 rw[ho,if_pos rfl]at heq
 rw[ho]at C1
 refine ah ?_;refine y4 ?_;refine yL ?_;refine yV ?_
 refine yC ?_
 refine FW.pu C1 ?_
 clear C1
 refine yM ?_;refine yE ?_;refine yE ?_;refine yM ?_;refine yM ?_;refine y3 ?_;refine y4 ?_;refine yM ?_;refine y3 ?_;refine yY ?_
 refine fB (E0:=[(2, .pointer (some ⟨h.next,0,none⟩)),(3, .pointer (some ⟨h.next+1,0,none⟩)),(7, .pointer (some ⟨H.next,0,none⟩))]) (P:=fun h'=>h'.next=H.next+1∧h'.log=[]∧WF h'∧(∀z,z≠H.next→h'.get z=H3.get z)∧h'.get H.next=some (.cells [.int .i64 100000] true 1)) ?_ ?_
 ·refine aJ ?_;refine yS ?_;refine dN ?_;refine y1 ?_
  exact⟨rfl,rfl,rfl,n3,(Heap.aN (by omega)).trans hL3,W3.as (AS.wr h.next _ _ _),fun z hz=>z5 hz,Heap.bB g7⟩
 rintro H4 ⟨n4,hL4,W4,o4,g74⟩
 have xh3:=x0.trans x3
 have oh4:∀z,z<h.next→H4.get z=h.get z:=fun z hz=>(o4 z (by omega)).trans (xh3.old z hz)
 have g24:=(o4 h.next (by omega)).trans g23
 have g34:=(o4 (h.next+1) (by omega)).trans g33
 have gm4:=(o4 m (by omega)).trans gm3
 have Q4:QuH H4 q m w pv nv ov l os ns:=Qh.keep hr.wf (by omega) (fun z hz _=>oh4 z hz) ⟨mm,gm4,hmm⟩
 have C2:=Jy F.op (h:={H4 with log:=[]}) (.of W4) (.pointer (some ⟨q,0,none⟩)) f rfl
 clear g23 g33 gm3 gq3 g7
 refine y4 ?_;refine yL ?_;refine yV ?_
 refine yC ?_
 refine FW.al C2 (fun v h' m q=>q) ?_
 clear C2
 rintro _ H5 x5 ⟨rfl,n5,gb1,gb2⟩
 have n5:H5.next=H4.next+2:=n5
 have gb1:H5.get H4.next=some (.cells [.pointer (some ⟨q,0,none⟩)] true 1):=gb1
 have gb2:H5.get (H4.next+1)=some (.cells (fL f) true 1):=gb2
 have W5:=x5.wf W4
 have hL5:=x5.log.trans hL4
 have g25:=(x5.old _ (by omega)).trans g24
 have g35:=(x5.old _ (by omega)).trans g34
 have gm5:=(x5.old m (by omega)).trans gm4
 have g75:=(x5.old H.next (by omega)).trans g74
 have oh5:∀z,z<h.next→H5.get z=h.get z:=fun z hz=>(x5.old z (by omega)).trans (oh4 z hz)
 clear g24 g34 gm4 g74
 have hmN:m≠H.next:=by omega
 have hml:m<H5.next:=by omega
 have h7l:H.next<H5.next:=by omega
 generalize hL0:(.loop [(2, .pointer (some ⟨h.next,0,none⟩)),(3, .pointer (some ⟨h.next+1,0,none⟩)),(7, .pointer (some ⟨H.next,0,none⟩)),(31, .func (.func 228) #[] #[.pointer (some ⟨H4.next,0,none⟩), .pointer (some ⟨H4.next+1,0,none⟩)])] [32] CU CV 0 .normal:bJ)=L0
 have hstab:∀done Ha Hb,I8 H5.next m H.next w l ns H5 L0 (fun p=>gW l p+max (fu w l ns (f.set p 1)) (fu w l ns (f.set p 2))) done Ha→H5.next+1≤Hb.next→(∀x,x<H5.next+1→Hb.get x=Ha.get x)→I8 H5.next m H.next w l ns H5 L0 (fun p=>gW l p+max (fu w l ns (f.set p 1)) (fu w l ns (f.set p 2))) done Hb:=fun done Ha Hb p n e=>by
  obtain⟨mm',u1,u2⟩:=p.mem
  exact⟨fun z hz i1 i2=>(e z (by omega)).trans (p.old z hz i1 i2),(e _ (by omega)).trans p.n,⟨mm',(e m (by omega)).trans u1,u2⟩,(e _ (by omega)).trans p.loop,by omega⟩
 have Y:I9 .ret T (fun z=>z=m∨z=H.next∨z=H5.next) (H5.next+1) H5.next (fun p=>[.int .i64 ((p:Nat):Int)]) (gL l.length f) (I8 H5.next m H.next w l ns H5 L0 (fun p=>gW l p+max (fu w l ns (f.set p 1)) (fu w l ns (f.set p 2)))) (fun _=>False):=by
  refine⟨fun done p Hh hx hrH hN hP=> ?_,hstab,fun _ _ e=>e,fun _ e=>e.elim,fun z hz=>by omega⟩
  obtain⟨hpl,hp0⟩:=lQ.1 hx
  have hl8:=Qh.hl
  have QHh:QuH Hh q m w pv nv ov l os ns:=Qh.keep hr.wf (by omega) (fun z hz hm=>(hP.old z (by omega) hm (by omega)).trans (oh5 z hz)) hP.mem
  have hlp:=hP.loop
  rw[←hL0]at hlp
  refine FW.mono' (Es F hrH hc QHh hf hlp ((hP.old _ (by omega) (by omega) (by omega)).trans g25) ((hP.old _ (by omega) (by omega) (by omega)).trans g35) hP.n (by omega) (by omega) (by omega) hpl fun a ha h' hr' Q'=>ih _ (Nat.lt_of_lt_of_le (Cf (by omega) (by omega) hx) hk) hr' Q' (by rw[List.length_set];exact hf) (Nat.le_refl _)) ?_
  rintro r' H' ⟨r1,r2⟩
  refine⟨r1,r2.imp (fun⟨e1,e2,e3,e4,e5⟩=>⟨e1,⟨fun z hz i1 i2=>(e2 z (by omega) i1 i2).trans (hP.old z hz i1 i2),?_,e5,(e2 _ hP.nx (by omega) (by omega)).trans hP.loop,Nat.lt_of_lt_of_le hP.nx e3⟩⟩) id⟩
  rw[Gj];exact e4
 refine y3 ?_;refine aK ?_
 refine Eu (px:= .ret) (W:=fun z=>z=m∨z=H.next∨z=H5.next) (P:=I8 H5.next m H.next w l ns H5 L0 (fun p=>gW l p+max (fu w l ns (f.set p 1)) (fu w l ns (f.set p 2))) (gL l.length f)) (S:=fun _=>False) rfl (by rfl) (by rw[F.op.f228];rfl) (by omega) W5 ?_ (fun Hh p=>by
  have:=p.loop
  rw[←hL0]at this
  exact⟨_,_,_,_,this⟩) (fun _ p=>p.elim) ?_ (fun _ _ _ _ _ _ _ _ p=>p.elim)
 ·have hL0':(.loop [(2, .pointer (some ⟨h.next,0,none⟩)),(3, .pointer (some ⟨h.next+1,0,none⟩)),(7, .pointer (some ⟨H.next,0,none⟩)),(31, .func (.func 228) #[] #[.pointer (some ⟨H4.next,0,none⟩), .pointer (some ⟨H4.next+1,0,none⟩)])] [32] CU CV 0 .normal:bJ)=L0:=hL0
  unfold CU CV at hL0'
  rw[hL0']
  have x6:Ext H5 {H5.push L0 with log:=[]}:=⟨Nat.le_succ _,by rw[hL5],fun z hz=>z4 hz,fun wf=>(wf.push L0).log _⟩
  have Q5:QuH H5 q m w pv nv ov l os ns:=Qh.keep hr.wf (by omega) (fun z hz _=>oh5 z hz) ⟨mm,gm5,hmm⟩
  refine Jz F.op (h:={H5.push L0 with log:=[]}) (.of (W5.push L0)) (Q5.ext W5 x6) hf (b1:=H4.next) (b2:=H4.next+1) ((x6.old _ (by omega)).trans gb1) Y (Nat.le_refl _) (Nat.lt_succ_self _) (fun d Hh p=>(p.old _ (by omega) (by omega) (by omega)).trans gb2) ⟨fun z hz _ _=>x6.old z hz,(x6.old _ (by omega)).trans g75,⟨mm,(x6.old m (by omega)).trans gm5,hmm⟩,z3 _ _,Nat.lt_succ_self _⟩
 ·intro h4 h5 k1 k2 k3 k4 k5 k6 hP
  obtain⟨mm',u1,u2⟩:=hP.mem
  have D2:=(k5 h.next (by omega)).trans ((hP.old _ (by omega) (by omega) (by omega)).trans g25)
  have D3:=(k5 (h.next+1) (by omega)).trans ((hP.old _ (by omega) (by omega) (by omega)).trans g35)
  have D7:=(k5 H.next (by omega)).trans hP.n
  have Dm:=(k5 m (by omega)).trans u1
  have Dq:=(k5 q (by omega)).trans ((hP.old _ (by omega) (fun e=>by have:=Qh.gq;rw[e,gm]at this;cases this) (by omega)).trans ((oh5 q kq).trans Qh.gq))
  have hlg:∀z∈h5.log,z=m:=fun z hz=>by
   rcases k1 z hz with e|⟨e,e2⟩
   ·rw[hL5]at e;cases e
   ·omega
  have hput:=u2.put hf
  rw[←heq]at D7
  generalize hV:fu w l ns f=V at*
  refine ff ?_;refine aV ?_;refine ah ?_;refine cV ?_;refine qL ?_;refine aM rfl rfl rfl (by exact rfl) (by exact rfl) (by exact rfl) (cA (by exact rfl)) ?_
  refine qF ?_;refine qK ?_;refine qV ?_
  refine qL ?_
  refine wA (mm:=mm') (f:=f) (n:=V) rfl rfl rfl (by exact rfl) (by exact rfl) (by exact rfl) (by exact rfl) Dm hf (fun x hx=>(u2 x hx).1) (by omega) (by(repeat apply aP rfl);exact cC) ?_
  refine dy ?_;refine y1 ?_;refine aV ?_;refine y4 ?_
  refine yL ?_ (hb:=(z5 (by omega)).trans D7);refine yM ?_
  refine y3 ?_;refine aG ?_
  exact jd (fun z hz=>(dO hz).elim id (hlg z)) rfl ⟨by rw[hV];rfl,_,Heap.bB Dm,hput⟩
def opE(w:List Nat×List Nat)(l:List Pb)(os:List (List Nat)):Int:=if kY w l os≠0 then kY w l os else if lT w=true then 82 else 0
theorem GZ{w:List Nat×List Nat}{l:List Pb}{os:List (List Nat)}:opE w l os=0↔kY w l os=0∧lT w=false:=by
 unfold opE
 by_cases h1:kY w l os=0
 ·rw[if_neg (by simpa using h1)]
  cases lT w<;>simp[h1]
 ·rw[if_pos h1];simp[h1]
theorem Fo(w:List Nat×List Nat)(l:List Pb)(os:List (List Nat)):fW w l os=if opE w l os≠0 then(0,opE w l os)else if 100000≤fu w l (os.map (fQ w)) z8 then(0,81)else(fu w l (os.map (fQ w)) z8,0):=by
 unfold fW opE
 by_cases h1:kY w l os=0
 ·have e:¬ (kY w l os≠0):=fun q=>q h1
  simp only[if_neg e]
  cases lT w<;>simp
 ·simp only[if_pos h1]
def NQ(h:Heap)(w:List Nat×List Nat)(pv ov:Value)(l:List Pb)(os:List (List Nat))(v:Value)(h':Heap):Prop:=
 (opE w l os≠0∧v= .tuple #[.pointer none, .int .i64 (opE w l os)])∨(opE w l os=0∧∃q m nv,v= .tuple #[.pointer (some ⟨q,0,none⟩), .int .i64 0]∧h.next≤m∧m<q∧QuH h' q m w pv nv ov l os (os.map (fQ w))∧h'.get m=some (.map (kM [])))
structure Ls (T:Nat→Option af):Prop where
 va:EG T
 ak:Lg T
 lk:Lr T
 f96:T 96=some f96
set_option maxHeartbeats 8000000 in
theorem Hj(F:Ls T){h:Heap}(hr:Rdy h)(hg:Tab h)(h2:2<h.next){w:List Nat×List Nat}(hw:IsW w){pv:Value}{l:List Pb}(sp:PbS h pv l)(hl:l.length<1000000){ov:Value}{os:List (List Nat)}(so:SsQ h ov os)(hol:os.length<1000000):
 Al T 96 [wV w,pv,ov] h (NQ h w pv ov l os):=by
 have hp:=F.va.op.qu.p
 refine .of hp F.f96 hr ?_ ?_
 ·rintro v h1 hv (q|⟨_,q,m,nv,rfl,_⟩)
  ·exact .inl q
  ·cases hv
 have hwc:cellsOf (wV w)=wL w:=by show(wL w).toArray.toList=_;simp
 obtain⟨a,c,rfl⟩:=sp.form
 obtain⟨a3,c3,rfl⟩:=so.sl.form
 have hov:∀b o m c,(.slice a3 os.length c3:Value)= .slice (some ⟨b,o,none⟩) m c→b<h.next:=fun b o m c e=>by
  rcases bK.inv so.sl with⟨_,hv,_⟩|⟨b',o',cap,hv,s1,_⟩
  ·rw[hv]at e;cases e
  ·rw[hv]at e;cases e;exact s1.lt
 have x0:Ext h (h.push (.cells (cellsOf (wV w)) true 1)):=(Ext.refl h).push _
 have g0:(h.push (.cells (cellsOf (wV w)) true 1)).get h.next=some (.cells (wL w) true 1):=by rw[hwc];exact z3 h _
 have n0:(h.push (.cells (cellsOf (wV w)) true 1)).next=h.next+1:=rfl
 refine y4 ?_;refine yB ?_;refine yM ?_;refine yM ?_;refine y3 ?_
 generalize(h.push (.cells (cellsOf (wV w)) true 1))=H at*
 have W:=x0.wf hr.wf
 have hL:=x0.log.trans hr.log
 have wk:=uW hw
 have wkl:=oE hw
 have C1:=E9 F.ak (h:={H with log:=[]}) (.of W) hw ((sp.ext x0).log []) hl ((so.ext x0).log []) hol
 unfold NQ opE
 have hask:=lI (w:=w) (l:=l) (os:=os)
 generalize kY w l os=er at*
 refine y4 ?_;refine yV ?_;refine yM ?_;refine yM ?_
 refine yC ?_
 refine FW.al C1 (fun v h' m q=>q) ?_
 clear C1
 rintro _ H1 x1 (⟨he,rfl⟩|⟨rfl,q,m,rfl,hq1,hq2,hq3,gq,gm⟩)
 ·simp only[if_pos he]
  have hL1:=x1.log.trans hL
  have meq:aA .eql (.int .i64 er) (.int .i64 0)=some (.bool false):=pn he
  have mn:aA .neq (.int .i64 er) (.int .i64 0)=some (.bool true):=mE he
  refine yM ?_;refine yE ?_;refine yE ?_;refine yM ?_;refine yM ?_;refine y3 ?_;refine ah ?_
  refine y4 ?_;refine yM ?_;refine yW ?_;refine yM ?_;refine yP ?_;refine yP ?_;refine yU ?_;refine y3 ?_;refine yX ?_;refine aH ?_;refine aV ?_;refine ah ?_;refine y4 ?_;refine yM ?_;refine yW ?_;refine y3 ?_;refine yY ?_;refine y4 ?_;refine yM ?_;refine yM ?_;refine yM ?_;refine y3 ?_;refine aG ?_;refine eW ?_
  exact ej hL1 rfl (.inl ⟨he,rfl⟩)
 simp only[if_neg (show¬ ((0:Int)≠0)from fun q=>q rfl)]
 obtain⟨_,hol6,hone,hl8,_⟩:=hask.1 rfl
 clear hask
 have hq1:H.next≤m:=hq1
 have ey1:=x0.trans x1
 have W1:=ey1.wf hr.wf
 have hL1:=x1.log.trans hL
 have n1:=x1.next
 have g01:=(x1.old _ (by omega)).trans g0
 have C3:=Mx F.ak.ne (h:={H1 with log:=[]}) (.of W1) hw
 have meq:aA .eql (.int .i64 0) (.int .i64 0)=some (.bool true):=rfl
 cases hm:lT w with
 |true=>
  rw[hm]at C3
  have mn:aA .neq (.int .i64 82) (.int .i64 0)=some (.bool true):=rfl
  refine yM ?_;refine yE ?_;refine yE ?_;refine yM ?_;refine yM ?_;refine y3 ?_;refine ah ?_
  refine y4 ?_;refine yM ?_;refine yW ?_;refine yM ?_;refine yO ?_;refine yV ?_;refine yO ?_
  refine yC ?_
  refine FW.pu C3 ?_
  refine yT ?_;refine y3 ?_;refine yY ?_;refine aJ ?_;refine yM ?_;refine y3 ?_;refine ah ?_;refine y4 ?_;refine yM ?_;refine yW ?_;refine y3 ?_;refine yY ?_;refine y4 ?_;refine yM ?_;refine yM ?_;refine yM ?_;refine y3 ?_;refine aG ?_;refine eW ?_
  exact ej hL1 rfl (.inl ⟨by decide,rfl⟩)
 |false=>
 rw[hm]at C3
 have mn:aA .neq (.int .i64 0) (.int .i64 0)=some (.bool false):=rfl
 have C5:=JD F.lk (h:={H1 with log:=[]}) (.of W1) (show Tab H1 from hg.ext ey1 h2) (by show 2<H1.next;omega) (q:=q) (by omega) hw gq ((so.ext ey1).log []) hol (fun b o m c e=>by have:=hov b o m c e;omega)
 refine yM ?_;refine yE ?_;refine yE ?_;refine yM ?_;refine yM ?_;refine y3 ?_;refine ah ?_
 refine y4 ?_;refine yM ?_;refine yW ?_;refine yM ?_;refine yO ?_;refine yV ?_;refine yO ?_
 refine yC ?_
 refine FW.pu C3 ?_
 clear C3
 refine yT ?_;refine y3 ?_;refine yX ?_;refine aH ?_;refine aV ?_;refine ah ?_;refine y4 ?_;refine yM ?_
 refine yW ?_;refine y3 ?_;refine yX ?_;refine aH ?_;refine aV ?_;refine y4 ?_;refine yM ?_
 refine yC ?_
 refine FW.gs0 C5 (fun v h' m q=> ?_) (fun z hz=>by omega) ?_
 ·obtain⟨o5,nv,q1,q2⟩:=q
  exact⟨o5,nv,q1,q2.log m⟩
 rintro _ H4 n4 l4 _ w4 ⟨o4,nv,gq4,sn⟩
 clear C5
 have o4:∀z,z<H1.next→z≠q→H4.get z=H1.get z:=o4
 have W4:=w4 W1
 have hL4:=l4.trans hL1
 have hkeep:∀{sz n:Nat} {v:Value} {cs:List Value},bK h sz v n cs→bK H4 sz v n cs:=fun s=>bK.Pe s (by omega) fun z hz=>(o4 z (by omega) (by omega)).trans (ey1.old z hz)
 have gm4:H4.get m=some (.map (kM [])):=(o4 m (by omega) (by omega)).trans gm
 refine y3 ?_;refine y4 ?_;refine yM ?_;refine yM ?_;refine yM ?_;refine y3 ?_;refine aG ?_
 refine ej hL4 rfl (.inr ⟨rfl,q,m,nv,rfl,by omega,hq2,⟨hw,gq4,⟨hkeep sp.sl,sp.ok⟩,hl8,⟨hkeep so.sl,so.ok⟩,hol,sn,by rw[List.length_map],fun r hr=> ?_,[],gm4,fun x hx=>by cases hx⟩,gm4⟩)
 obtain⟨o,_,rfl⟩:=List.mem_map.1 hr
 exact Nat.lt_of_le_of_lt (DA w o) (by decide)
structure Lo (T:Nat→Option af):Prop where
 od:Ls T
 f39:T 39=some f39
set_option maxHeartbeats 8000000 in
theorem AD(F:Lo T){h:Heap}(hr:Rdy h)(hg:Tab h)(h2:2<h.next){w:List Nat×List Nat}(hw:IsW w){pv:Value}{l:List Pb}(sp:PbS h pv l)(hl:l.length<1000000){ov:Value}{os:List (List Nat)}(so:SsQ h ov os)(hol:os.length<1000000):
 Pu T 39 [wV w,pv,ov] h (.tuple #[.int .i64 (fW w l os).1, .int .i64 (fW w l os).2]):=by
 have hp:=F.od.va.op.qu.p
 refine .of hp F.f39 hr rfl ?_
 have hwc:cellsOf (wV w)=wL w:=by show(wL w).toArray.toList=_;simp
 obtain⟨a,c,rfl⟩:=sp.form
 obtain⟨a3,c3,rfl⟩:=so.sl.form
 have x0:Ext h (h.push (.cells (cellsOf (wV w)) true 1)):=(Ext.refl h).push _
 have g0:(h.push (.cells (cellsOf (wV w)) true 1)).get h.next=some (.cells (wL w) true 1):=by rw[hwc];exact z3 h _
 have n0:(h.push (.cells (cellsOf (wV w)) true 1)).next=h.next+1:=rfl
 refine y4 ?_;refine yB ?_;refine yM ?_;refine yM ?_;refine y3 ?_
 generalize(h.push (.cells (cellsOf (wV w)) true 1))=H at*
 have W:=x0.wf hr.wf
 have hL:=x0.log.trans hr.log
 have wk:=uW hw
 have wkl:=oE hw
 have C1:=Hj F.od (h:={H with log:=[]}) (.of W) (show Tab H from hg.ext x0 h2) (by show 2<H.next;omega) hw ((sp.ext x0).log []) hl ((so.ext x0).log []) hol
 rw[Fo]
 refine y4 ?_;refine yV ?_;refine yM ?_;refine yM ?_
 refine yC ?_
 refine FW.al C1 (fun v h' m q=> ?_) ?_
 ·rcases q with q|⟨e,q,m',nv,e1,e2,e3,e4,e5⟩
  ·exact .inl q
  ·exact .inr ⟨e,q,m',nv,e1,e2,e3,e4.log m,e5⟩
 clear C1
 rintro _ H1 x1 (⟨he,rfl⟩|⟨he,q,m,nv,rfl,hq1,hq2,Q1,gm⟩)
 ·rw[if_pos he]
  generalize opE w l os=er at*
  have hL1:=x1.log.trans hL
  have mn:aA .neq (.int .i64 er) (.int .i64 0)=some (.bool true):=mE he
  refine yM ?_;refine yE ?_;refine yE ?_;refine yM ?_;refine yM ?_;refine y3 ?_;refine ah ?_
  refine y4 ?_;refine yM ?_;refine yW ?_;refine y3 ?_;refine yY ?_;refine y4 ?_
  refine yM ?_;refine yM ?_;refine yM ?_;refine y3 ?_;refine aG ?_;refine eW ?_
  exact aD hL1 rfl rfl
 rw[if_neg (fun q=>q he)]
 have hq1:H.next≤m:=hq1
 have W1:=x1.wf W
 have hL1:=x1.log.trans hL
 have mn:aA .neq (.int .i64 0) (.int .i64 0)=some (.bool false):=rfl
 have hpc:=Cr (lI.1 (GZ.1 he).1).2.2.2.2
 have C2:=ID F.od.va hpc _ (h:={H1 with log:=[]}) (.of W1) (Q1.log []) (f:=z8) rfl (Nat.le_refl _)
 generalize hV:fu w l (os.map (fQ w)) z8=V at*
 have mge:aA .geq (.int .i64 V) (.int .i64 100000)=some (.bool (decide (100000≤V))):=zH
 refine yM ?_;refine yE ?_;refine yE ?_;refine yM ?_;refine yM ?_;refine y3 ?_;refine ah ?_
 refine y4 ?_;refine yM ?_;refine yW ?_;refine y3 ?_;refine yX ?_;refine aH ?_;refine aV ?_;refine y4 ?_;refine yM ?_;refine an (ez (by exact rfl)) ?_
 refine yC ?_
 refine FW.gs0 C2 (fun v h' m q=>q) (fun z hz=>by omega) ?_
 clear C2
 rintro _ H2 n2 l2 _ w2 ⟨rfl,_⟩
 have hL2:=l2.trans hL1
 rw[hV]
 by_cases hge:100000≤V
 ·rw[decide_eq_true hge]at mge
  rw[if_pos hge]
  refine yM ?_;refine y3 ?_;refine ah ?_;refine y4 ?_;refine yM ?_;refine yW ?_;refine y3 ?_;refine yY ?_;refine y4 ?_;refine yM ?_;refine yM ?_;refine y3 ?_;refine aG ?_;refine eW ?_
  exact aD hL2 rfl rfl
 ·rw[decide_eq_false hge]at mge
  rw[if_neg hge]
  refine yM ?_;refine y3 ?_;refine ah ?_;refine y4 ?_;refine yM ?_;refine yW ?_;refine y3 ?_;refine yX ?_;refine aH ?_;refine aV ?_;refine y4 ?_;refine yM ?_;refine yM ?_;refine yM ?_;refine y3 ?_;refine aG ?_
  exact aD hL2 rfl rfl
def ClG(lo sz n:Nat)(cs:List Value)(v:Value)(h:Heap):Prop:=∃b,lo≤b∧b<h.next∧h.get b=some (.cells cs true sz)∧(n=0∧v= .slice (some ⟨b,0,none⟩) 0 0∨n≠0∧v= .slice (some ⟨b,0,none⟩) n UNK)
theorem zi{h:Heap}{e:Env}{z cs:List Value}{k:Nat}{x:Operand}(hc:cs.length=k)(hz:z.length=k)(hx:ev h e x=some (.agg cs.toArray)):iF h e z [(0,k,x)]=some cs:=by
 have e1:cellsOf (.agg cs.toArray)=cs:=by show cs.toArray.toList=_;simp
 have e2:cO z 0 cs=cs:=by rw[eX (by omega),hc,List.take_zero,List.drop_eq_nil_of_le (by omega)];simp
 simp only[iF,hx,e1,e2,bQ,hc,hz,beq_eq,ble_eq,Nat.zero_add]
 simp
theorem IG{base:Nat}{e:Env}{h:Heap}{lo b sz bytes n:Nat}{cs:List Value}{ops:List aW}{bf:List Nat}{rs:List Rec}{Q:Env→Heap→Prop}{i mask:Nat}{is:List Nat}{dst:Option Nat}{g:Option (Nat×Bool)}{er:Env}{x y:Operand}{u:Value}
 (hb:h.get b=some (.cells [] true sz))(hbn:b<h.next)(hlo:lo≤b)(s:bK h sz u n cs)(hn:n<1000000)(hby:bytes≤100000)
 (ho:bH ops i=some ⟨dst, .append sz bytes x y,g⟩)(hm:bH bf i=some mask)(he:bE e (bS ⟨dst, .append sz bytes x y,g⟩)=er)(hwt:bC er g=some true)
 (hx:ev {h with log:=[]} er x=some (.slice (some ⟨b,0,none⟩) 0 0))(hy:ev {h with log:=[]} er y=some u)
 (hK:∀v' h',ClG lo sz n cs v' h'→Ext h h'→∃rs',aZ h' base [] mask rs=some rs'∧WD T base ops bf Q is rs' (bM e dst v') h'):WD T base ops bf Q (i::is) rs e h:=by
 have hs:=sU (l:=[]) (Ib s)
 have hlen:=bK.len s
 by_cases h0:n=0
 ·subst h0
  have hcs:cs=[]:=List.eq_nil_of_length_eq_zero (by rw[hlen,Nat.zero_mul])
  subst hcs
  obtain⟨rs',q1,q2⟩:=hK _ _ ⟨b,hlo,hbn,hb, .inl ⟨rfl,rfl⟩⟩ (.refl h)
  exact Aq ho hm he hwt hx hy hs (Nat.le_refl _) q1 q2
 ·have e1:dI (cH (0*sz) (bW 0 [])) cs=cs:=by rw[Nat.zero_mul];rfl
  have hbd:(2*(0+n)+768)*bytes≤281474976710656:=by
   have:(2*(0+n)+768)*bytes≤2000768*100000:=Nat.mul_le_mul (by omega) hby
   omega
  obtain⟨rs',q1,q2⟩:=hK (.slice (some ⟨h.next,0,none⟩) (0+n) UNK) _ ⟨h.next,by omega,Nat.lt_succ_self _,z3 h _, .inr ⟨h0,by rw[Nat.zero_add]⟩⟩ ((Ext.refl h).push _)
  exact jk ho hm he hwt rfl (oP (h:={h with log:=[]}) (len:=0) (c:=0) (n:=n) (ws:=cs) hx hy hs h0 (by omega) (by decide) hb (by rw[Nat.zero_mul];exact Nat.le_refl _) hbd e1) (wM _) (xg _) q1 q2
theorem IF{base:Nat}{e:Env}{h:Heap}{lo sz bytes n:Nat}{cs c1:List Value}{ops:List aW}{bf:List Nat}{rs:List Rec}{Q:Env→Heap→Prop}{i mask:Nat}{is:List Nat}{dst:Option Nat}{g:Option (Nat×Bool)}{er:Env}{x y:Operand}{v u:Value}
 (s:ClG lo sz n cs v h)(hlen:cs.length=n*sz)(hone:dR cs=true)(hn:n<1000000)(hsz:0<sz)(hby:bytes≤100000)(hlo:lo≤h.next)(hbase:base≤lo)
 (ho:bH ops i=some ⟨dst, .append sz bytes x y,g⟩)(hm:bH bf i=some mask)(he:bE e (bS ⟨dst, .append sz bytes x y,g⟩)=er)(hwt:bC er g=some true)
 (hx:ev {h with log:=[]} er x=some v)(hy:ev {h with log:=[]} er y=some u)(hs:cW {h with log:=[]} sz u=some (c1,1))(hl1:c1.length=sz)(h1:dR c1=true)
 (hK:∀v' h' lg,bK h' sz v' (n+1) (cs++c1)→Lx lo h h'→∃rs',aZ h' base lg mask rs=some rs'∧WD T base ops bf Q is rs' (bM e dst v') h'):WD T base ops bf Q (i::is) rs e h:=by
 obtain⟨b,k1,k2,k3,⟨rfl,rfl⟩|⟨k4,rfl⟩⟩:=s
 ·have hcs:cs=[]:=List.eq_nil_of_length_eq_zero (by rw[hlen,Nat.zero_mul])
  subst hcs
  have hbd:(2*(0+1)+768)*bytes≤281474976710656:=by omega
  have hF:Own lo (h.push (.cells c1 true sz)) sz (.slice (some ⟨h.next,0,none⟩) 1 UNK) 1 c1:= .full hlo (Nat.lt_succ_self _) (z3 _ _) (by omega) (by omega)
  obtain⟨rs',q1,q2⟩:=hK _ _ [] (by rw[List.nil_append,Nat.zero_add];exact hF.slice (by decide)) ((Lx.refl lo h).push hlo _)
  exact jk ho hm he hwt rfl (oP (h:={h with log:=[]}) (len:=0) (c:=0) (n:=1) (ws:=c1) hx hy hs (by omega) (by omega) (by decide) k3 (by rw[Nat.zero_mul];exact Nat.le_refl _) hbd (by rw[Nat.zero_mul];rfl)) (wM _) (xg _) q1 q2
 ·refine KY (lo:=lo) (n:=n) (.full k1 k2 k3 hlen k4) hn hsz hby hlo hbase ho hm he hwt hx hy hs hl1 h1 hone ?_
  intro v' h' lg o x
  exact hK v' h' lg (o.slice (by omega)) x
def Fz(w:List Nat×List Nat)(n m:Nat):Bool:=decide (jw w.2≤40)&&(decide (n≤5)||decide (8<n∧n≤10))&&(decide (m≤3)||decide (6<m∧m≤8))
theorem Jp{w:List Nat×List Nat}{n m:Nat}(h:Fz w n m=true):n≤10∧m≤8:=by
 unfold Fz at h
 simp only[Bool.and_eq_true,Bool.or_eq_true,decide_eq_true_eq]at h
 omega
structure Lj (T:Nat→Option af):Prop where
 p:bt T
 cr:ED T
 f25:T 25=some f25
 f84:T 84=some f84
set_option maxHeartbeats 16000000 in
theorem O1(F:Lj T){h:Heap}(hr:Rdy h){w:List Nat×List Nat}(hw:IsW w){a a2:Option Addr}{n c m c2:Nat}(hn:n<4611686018427387904)(hm:m<4611686018427387904):Pu T 25 [wV w, .slice a n c, .slice a2 m c2] h (.bool (Fz w n m)):=by
 refine .of F.p F.f25 hr rfl ?_
 have hwc:cellsOf (wV w)=wL w:=by show(wL w).toArray.toList=_;simp
 have x0:Ext h (h.push (.cells (cellsOf (wV w)) true 1)):=(Ext.refl h).push _
 have g0:(h.push (.cells (cellsOf (wV w)) true 1)).get h.next=some (.cells (wL w) true 1):=by rw[hwc];exact z3 h _
 refine y4 ?_;refine yB ?_;refine yM ?_;refine y3 ?_
 generalize(h.push (.cells (cellsOf (wV w)) true 1))=H at*
 have W:=x0.wf hr.wf
 have hL:=x0.log.trans hr.log
 have kb:cH 8 (bW (0+8) (wL w))=us w.2:=IK hw
 have kbl:=bF hw.b.len
 have C:=Jn F.cr F.f84 (h:={H with log:=[]}) (.of W) hw.b
 unfold Fz
 generalize jw w.2=k at*
 by_cases c40:k≤40
 case neg=>
  have ev:(decide (k≤40)&&(decide (n≤5)||decide (8<n∧n≤10))&&(decide (m≤3)||decide (6<m∧m≤8)))=false:=by(try simp only[Bool.and_eq_false_iff,Bool.or_eq_false_iff,Bool.and_eq_true,Bool.or_eq_true,decide_eq_true_eq,decide_eq_false_iff_not]);omega
  rw[ev]
  clear ev
  have m1:aA .leq (.int .i64 (k:Nat)) (.int .i64 40)=some (.bool false):=fO (by omega)
  refine y4 ?_;refine yF ?_;refine yV ?_
  refine yC ?_
  refine FW.pu C ?_
  refine yW ?_;refine yM ?_;refine yP ?_;refine yP ?_;refine yP ?_;refine yP ?_;refine bA (by exact rfl) ?_;refine bA (by exact rfl) ?_
  refine bA (by exact rfl) ?_;refine bA (by exact rfl) ?_;refine bA (by exact rfl) ?_;refine bA (by exact rfl) ?_;refine bA (by exact rfl) ?_;refine bA (by exact rfl) ?_;refine yP ?_;refine yU ?_;refine yM ?_;refine yP ?_
  refine yP ?_;refine yP ?_;refine yP ?_;refine bA (by exact rfl) ?_;refine bA (by exact rfl) ?_;refine bA (by exact rfl) ?_;refine bA (by exact rfl) ?_;refine bA (by exact rfl) ?_;refine bA (by exact rfl) ?_;refine bA (by exact rfl) ?_
  refine bA (by exact rfl) ?_;refine yP ?_;refine yU ?_;refine yM ?_;refine y3 ?_;refine aG ?_
  exact aD hL rfl rfl
 have m1:aA .leq (.int .i64 (k:Nat)) (.int .i64 40)=some (.bool true):=gU (by omega)
 have hcase:n≤5∨(5<n∧n≤8)∨(8<n∧n≤10)∨10<n:=by omega
 have hcas2:m≤3∨(3<m∧m≤6)∨(6<m∧m≤8)∨8<m:=by omega
 rcases hcase with hq|hq|hq|hq
 ·rcases hcas2 with hq2|hq2|hq2|hq2
  ·have ev:(decide (k≤40)&&(decide (n≤5)||decide (8<n∧n≤10))&&(decide (m≤3)||decide (6<m∧m≤8)))=true:=by(try simp only[Bool.and_eq_false_iff,Bool.or_eq_false_iff,Bool.and_eq_true,Bool.or_eq_true,decide_eq_true_eq,decide_eq_false_iff_not]);omega
   rw[ev]
   clear ev
   have m2:aA .leq (.int .i64 (n:Nat)) (.int .i64 5)=some (.bool true):=gU (by omega)
   have m5:aA .leq (.int .i64 (m:Nat)) (.int .i64 3)=some (.bool true):=gU (by omega)
   refine y4 ?_;refine yF ?_;refine yV ?_
   refine yC ?_
   refine FW.pu C ?_
   refine yW ?_;refine yM ?_;refine yO ?_;refine yM ?_;refine yO ?_;refine yD ?_;refine yO ?_;refine yW ?_
   refine yO ?_;refine yM ?_;refine yP ?_;refine yP ?_;refine yP ?_;refine yP ?_;refine bA (by exact rfl) ?_;refine bA (by exact rfl) ?_;refine bA (by exact rfl) ?_
   refine yP ?_;refine yO ?_;refine yT ?_;refine yT ?_;refine yM ?_;refine yO ?_;refine yM ?_;refine yO ?_;refine yD ?_
   refine yO ?_;refine yW ?_;refine yO ?_;refine yM ?_;refine yP ?_;refine yP ?_;refine yP ?_;refine yP ?_
   refine bA (by exact rfl) ?_;refine bA (by exact rfl) ?_;refine bA (by exact rfl) ?_;refine yP ?_;refine yO ?_;refine yT ?_;refine yT ?_;refine yM ?_;refine y3 ?_;refine aG ?_
   exact aD hL rfl rfl
  ·have ev:(decide (k≤40)&&(decide (n≤5)||decide (8<n∧n≤10))&&(decide (m≤3)||decide (6<m∧m≤8)))=false:=by(try simp only[Bool.and_eq_false_iff,Bool.or_eq_false_iff,Bool.and_eq_true,Bool.or_eq_true,decide_eq_true_eq,decide_eq_false_iff_not]);omega
   rw[ev]
   clear ev
   have m2:aA .leq (.int .i64 (n:Nat)) (.int .i64 5)=some (.bool true):=gU (by omega)
   have m5:aA .leq (.int .i64 (m:Nat)) (.int .i64 3)=some (.bool false):=fO (by omega)
   have m6:aA .gtr (.int .i64 (m:Nat)) (.int .i64 6)=some (.bool false):=jV (by omega)
   refine y4 ?_;refine yF ?_;refine yV ?_
   refine yC ?_
   refine FW.pu C ?_
   refine yW ?_;refine yM ?_;refine yO ?_;refine yM ?_;refine yO ?_;refine yD ?_;refine yO ?_;refine yW ?_
   refine yO ?_;refine yM ?_;refine yP ?_;refine yP ?_;refine yP ?_;refine yP ?_;refine bA (by exact rfl) ?_;refine bA (by exact rfl) ?_;refine bA (by exact rfl) ?_
   refine yP ?_;refine yO ?_;refine yT ?_;refine yT ?_;refine yM ?_;refine yO ?_;refine yM ?_;refine yO ?_;refine yD ?_
   refine yO ?_;refine yW ?_;refine yO ?_;refine yM ?_;refine yO ?_;refine yM ?_;refine yO ?_;refine yD ?_;refine yO ?_
   refine yW ?_;refine yO ?_;refine yM ?_;refine yP ?_;refine yP ?_;refine yP ?_;refine yO ?_;refine yU ?_
   refine yO ?_;refine yU ?_;refine yT ?_;refine yM ?_;refine y3 ?_;refine aG ?_
   exact aD hL rfl rfl
  ·have ev:(decide (k≤40)&&(decide (n≤5)||decide (8<n∧n≤10))&&(decide (m≤3)||decide (6<m∧m≤8)))=true:=by(try simp only[Bool.and_eq_false_iff,Bool.or_eq_false_iff,Bool.and_eq_true,Bool.or_eq_true,decide_eq_true_eq,decide_eq_false_iff_not]);omega
   rw[ev]
   clear ev
   have m2:aA .leq (.int .i64 (n:Nat)) (.int .i64 5)=some (.bool true):=gU (by omega)
   have m5:aA .leq (.int .i64 (m:Nat)) (.int .i64 3)=some (.bool false):=fO (by omega)
   have m6:aA .gtr (.int .i64 (m:Nat)) (.int .i64 6)=some (.bool true):=gX (by omega)
   have m7:aA .leq (.int .i64 (m:Nat)) (.int .i64 8)=some (.bool true):=gU (by omega)
   refine y4 ?_;refine yF ?_;refine yV ?_
   refine yC ?_
   refine FW.pu C ?_
   refine yW ?_;refine yM ?_;refine yO ?_;refine yM ?_;refine yO ?_;refine yD ?_;refine yO ?_;refine yW ?_
   refine yO ?_;refine yM ?_;refine yP ?_;refine yP ?_;refine yP ?_;refine yP ?_;refine bA (by exact rfl) ?_;refine bA (by exact rfl) ?_;refine bA (by exact rfl) ?_
   refine yP ?_;refine yO ?_;refine yT ?_;refine yT ?_;refine yM ?_;refine yO ?_;refine yM ?_;refine yO ?_;refine yD ?_
   refine yO ?_;refine yW ?_;refine yO ?_;refine yM ?_;refine yO ?_;refine yM ?_;refine yO ?_;refine yD ?_;refine yO ?_
   refine yW ?_;refine yO ?_;refine yM ?_;refine yO ?_;refine yM ?_;refine yO ?_;refine yD ?_;refine yO ?_
   refine yW ?_;refine yO ?_;refine yT ?_;refine yO ?_;refine yU ?_;refine yT ?_;refine yM ?_;refine y3 ?_;refine aG ?_
   exact aD hL rfl rfl
  ·have ev:(decide (k≤40)&&(decide (n≤5)||decide (8<n∧n≤10))&&(decide (m≤3)||decide (6<m∧m≤8)))=false:=by(try simp only[Bool.and_eq_false_iff,Bool.or_eq_false_iff,Bool.and_eq_true,Bool.or_eq_true,decide_eq_true_eq,decide_eq_false_iff_not]);omega
   rw[ev]
   clear ev
   have m2:aA .leq (.int .i64 (n:Nat)) (.int .i64 5)=some (.bool true):=gU (by omega)
   have m5:aA .leq (.int .i64 (m:Nat)) (.int .i64 3)=some (.bool false):=fO (by omega)
   have m6:aA .gtr (.int .i64 (m:Nat)) (.int .i64 6)=some (.bool true):=gX (by omega)
   have m7:aA .leq (.int .i64 (m:Nat)) (.int .i64 8)=some (.bool false):=fO (by omega)
   refine y4 ?_;refine yF ?_;refine yV ?_
   refine yC ?_
   refine FW.pu C ?_
   refine yW ?_;refine yM ?_;refine yO ?_;refine yM ?_;refine yO ?_;refine yD ?_;refine yO ?_;refine yW ?_
   refine yO ?_;refine yM ?_;refine yP ?_;refine yP ?_;refine yP ?_;refine yP ?_;refine bA (by exact rfl) ?_;refine bA (by exact rfl) ?_;refine bA (by exact rfl) ?_
   refine yP ?_;refine yO ?_;refine yT ?_;refine yT ?_;refine yM ?_;refine yO ?_;refine yM ?_;refine yO ?_;refine yD ?_
   refine yO ?_;refine yW ?_;refine yO ?_;refine yM ?_;refine yO ?_;refine yM ?_;refine yO ?_;refine yD ?_;refine yO ?_
   refine yW ?_;refine yO ?_;refine yM ?_;refine yO ?_;refine yM ?_;refine yO ?_;refine yD ?_;refine yO ?_
   refine yW ?_;refine yO ?_;refine yT ?_;refine yO ?_;refine yU ?_;refine yT ?_;refine yM ?_;refine y3 ?_;refine aG ?_
   exact aD hL rfl rfl
 ·have ev:(decide (k≤40)&&(decide (n≤5)||decide (8<n∧n≤10))&&(decide (m≤3)||decide (6<m∧m≤8)))=false:=by(try simp only[Bool.and_eq_false_iff,Bool.or_eq_false_iff,Bool.and_eq_true,Bool.or_eq_true,decide_eq_true_eq,decide_eq_false_iff_not]);omega
  rw[ev]
  clear ev
  have m2:aA .leq (.int .i64 (n:Nat)) (.int .i64 5)=some (.bool false):=fO (by omega)
  have m3:aA .gtr (.int .i64 (n:Nat)) (.int .i64 8)=some (.bool false):=jV (by omega)
  refine y4 ?_;refine yF ?_;refine yV ?_
  refine yC ?_
  refine FW.pu C ?_
  refine yW ?_;refine yM ?_;refine yO ?_;refine yM ?_;refine yO ?_;refine yD ?_;refine yO ?_;refine yW ?_
  refine yO ?_;refine yM ?_;refine yO ?_;refine yM ?_;refine yO ?_;refine yD ?_;refine yO ?_;refine yW ?_;refine yO ?_
  refine yM ?_;refine yP ?_;refine yP ?_;refine yP ?_;refine yO ?_;refine yU ?_;refine yO ?_;refine yU ?_
  refine yT ?_;refine yM ?_;refine yP ?_;refine yP ?_;refine yP ?_;refine yP ?_;refine bA (by exact rfl) ?_;refine bA (by exact rfl) ?_;refine bA (by exact rfl) ?_
  refine bA (by exact rfl) ?_;refine bA (by exact rfl) ?_;refine bA (by exact rfl) ?_;refine bA (by exact rfl) ?_;refine bA (by exact rfl) ?_;refine yP ?_;refine yU ?_;refine yM ?_;refine y3 ?_;refine aG ?_
  exact aD hL rfl rfl
 ·rcases hcas2 with hq2|hq2|hq2|hq2
  ·have ev:(decide (k≤40)&&(decide (n≤5)||decide (8<n∧n≤10))&&(decide (m≤3)||decide (6<m∧m≤8)))=true:=by(try simp only[Bool.and_eq_false_iff,Bool.or_eq_false_iff,Bool.and_eq_true,Bool.or_eq_true,decide_eq_true_eq,decide_eq_false_iff_not]);omega
   rw[ev]
   clear ev
   have m2:aA .leq (.int .i64 (n:Nat)) (.int .i64 5)=some (.bool false):=fO (by omega)
   have m3:aA .gtr (.int .i64 (n:Nat)) (.int .i64 8)=some (.bool true):=gX (by omega)
   have m4:aA .leq (.int .i64 (n:Nat)) (.int .i64 10)=some (.bool true):=gU (by omega)
   have m5:aA .leq (.int .i64 (m:Nat)) (.int .i64 3)=some (.bool true):=gU (by omega)
   refine y4 ?_;refine yF ?_;refine yV ?_
   refine yC ?_
   refine FW.pu C ?_
   refine yW ?_;refine yM ?_;refine yO ?_;refine yM ?_;refine yO ?_;refine yD ?_;refine yO ?_;refine yW ?_
   refine yO ?_;refine yM ?_;refine yO ?_;refine yM ?_;refine yO ?_;refine yD ?_;refine yO ?_;refine yW ?_;refine yO ?_
   refine yM ?_;refine yO ?_;refine yM ?_;refine yO ?_;refine yD ?_;refine yO ?_;refine yW ?_;refine yO ?_;refine yT ?_
   refine yO ?_;refine yU ?_;refine yT ?_;refine yM ?_;refine yO ?_;refine yM ?_;refine yO ?_;refine yD ?_;refine yO ?_
   refine yW ?_;refine yO ?_;refine yM ?_;refine yP ?_;refine yP ?_;refine yP ?_;refine yP ?_;refine bA (by exact rfl) ?_
   refine bA (by exact rfl) ?_;refine bA (by exact rfl) ?_;refine yP ?_;refine yO ?_;refine yT ?_;refine yT ?_;refine yM ?_;refine y3 ?_;refine aG ?_
   exact aD hL rfl rfl
  ·have ev:(decide (k≤40)&&(decide (n≤5)||decide (8<n∧n≤10))&&(decide (m≤3)||decide (6<m∧m≤8)))=false:=by(try simp only[Bool.and_eq_false_iff,Bool.or_eq_false_iff,Bool.and_eq_true,Bool.or_eq_true,decide_eq_true_eq,decide_eq_false_iff_not]);omega
   rw[ev]
   clear ev
   have m2:aA .leq (.int .i64 (n:Nat)) (.int .i64 5)=some (.bool false):=fO (by omega)
   have m3:aA .gtr (.int .i64 (n:Nat)) (.int .i64 8)=some (.bool true):=gX (by omega)
   have m4:aA .leq (.int .i64 (n:Nat)) (.int .i64 10)=some (.bool true):=gU (by omega)
   have m5:aA .leq (.int .i64 (m:Nat)) (.int .i64 3)=some (.bool false):=fO (by omega)
   have m6:aA .gtr (.int .i64 (m:Nat)) (.int .i64 6)=some (.bool false):=jV (by omega)
   refine y4 ?_;refine yF ?_;refine yV ?_
   refine yC ?_
   refine FW.pu C ?_
   refine yW ?_;refine yM ?_;refine yO ?_;refine yM ?_;refine yO ?_;refine yD ?_;refine yO ?_;refine yW ?_
   refine yO ?_;refine yM ?_;refine yO ?_;refine yM ?_;refine yO ?_;refine yD ?_;refine yO ?_;refine yW ?_;refine yO ?_
   refine yM ?_;refine yO ?_;refine yM ?_;refine yO ?_;refine yD ?_;refine yO ?_;refine yW ?_;refine yO ?_;refine yT ?_
   refine yO ?_;refine yU ?_;refine yT ?_;refine yM ?_;refine yO ?_;refine yM ?_;refine yO ?_;refine yD ?_;refine yO ?_
   refine yW ?_;refine yO ?_;refine yM ?_;refine yO ?_;refine yM ?_;refine yO ?_;refine yD ?_;refine yO ?_
   refine yW ?_;refine yO ?_;refine yM ?_;refine yP ?_;refine yP ?_;refine yP ?_;refine yO ?_;refine yU ?_
   refine yO ?_;refine yU ?_;refine yT ?_;refine yM ?_;refine y3 ?_;refine aG ?_
   exact aD hL rfl rfl
  ·have ev:(decide (k≤40)&&(decide (n≤5)||decide (8<n∧n≤10))&&(decide (m≤3)||decide (6<m∧m≤8)))=true:=by(try simp only[Bool.and_eq_false_iff,Bool.or_eq_false_iff,Bool.and_eq_true,Bool.or_eq_true,decide_eq_true_eq,decide_eq_false_iff_not]);omega
   rw[ev]
   clear ev
   have m2:aA .leq (.int .i64 (n:Nat)) (.int .i64 5)=some (.bool false):=fO (by omega)
   have m3:aA .gtr (.int .i64 (n:Nat)) (.int .i64 8)=some (.bool true):=gX (by omega)
   have m4:aA .leq (.int .i64 (n:Nat)) (.int .i64 10)=some (.bool true):=gU (by omega)
   have m5:aA .leq (.int .i64 (m:Nat)) (.int .i64 3)=some (.bool false):=fO (by omega)
   have m6:aA .gtr (.int .i64 (m:Nat)) (.int .i64 6)=some (.bool true):=gX (by omega)
   have m7:aA .leq (.int .i64 (m:Nat)) (.int .i64 8)=some (.bool true):=gU (by omega)
   refine y4 ?_;refine yF ?_;refine yV ?_
   refine yC ?_
   refine FW.pu C ?_
   refine yW ?_;refine yM ?_;refine yO ?_;refine yM ?_;refine yO ?_;refine yD ?_;refine yO ?_;refine yW ?_
   refine yO ?_;refine yM ?_;refine yO ?_;refine yM ?_;refine yO ?_;refine yD ?_;refine yO ?_;refine yW ?_;refine yO ?_
   refine yM ?_;refine yO ?_;refine yM ?_;refine yO ?_;refine yD ?_;refine yO ?_;refine yW ?_;refine yO ?_;refine yT ?_
   refine yO ?_;refine yU ?_;refine yT ?_;refine yM ?_;refine yO ?_;refine yM ?_;refine yO ?_;refine yD ?_;refine yO ?_
   refine yW ?_;refine yO ?_;refine yM ?_;refine yO ?_;refine yM ?_;refine yO ?_;refine yD ?_;refine yO ?_
   refine yW ?_;refine yO ?_;refine yM ?_;refine yO ?_;refine yM ?_;refine yO ?_;refine yD ?_;refine yO ?_
   refine yW ?_;refine yO ?_;refine yT ?_;refine yO ?_;refine yU ?_;refine yT ?_;refine yM ?_;refine y3 ?_;refine aG ?_
   exact aD hL rfl rfl
  ·have ev:(decide (k≤40)&&(decide (n≤5)||decide (8<n∧n≤10))&&(decide (m≤3)||decide (6<m∧m≤8)))=false:=by(try simp only[Bool.and_eq_false_iff,Bool.or_eq_false_iff,Bool.and_eq_true,Bool.or_eq_true,decide_eq_true_eq,decide_eq_false_iff_not]);omega
   rw[ev]
   clear ev
   have m2:aA .leq (.int .i64 (n:Nat)) (.int .i64 5)=some (.bool false):=fO (by omega)
   have m3:aA .gtr (.int .i64 (n:Nat)) (.int .i64 8)=some (.bool true):=gX (by omega)
   have m4:aA .leq (.int .i64 (n:Nat)) (.int .i64 10)=some (.bool true):=gU (by omega)
   have m5:aA .leq (.int .i64 (m:Nat)) (.int .i64 3)=some (.bool false):=fO (by omega)
   have m6:aA .gtr (.int .i64 (m:Nat)) (.int .i64 6)=some (.bool true):=gX (by omega)
   have m7:aA .leq (.int .i64 (m:Nat)) (.int .i64 8)=some (.bool false):=fO (by omega)
   refine y4 ?_;refine yF ?_;refine yV ?_
   refine yC ?_
   refine FW.pu C ?_
   refine yW ?_;refine yM ?_;refine yO ?_;refine yM ?_;refine yO ?_;refine yD ?_;refine yO ?_;refine yW ?_
   refine yO ?_;refine yM ?_;refine yO ?_;refine yM ?_;refine yO ?_;refine yD ?_;refine yO ?_;refine yW ?_;refine yO ?_
   refine yM ?_;refine yO ?_;refine yM ?_;refine yO ?_;refine yD ?_;refine yO ?_;refine yW ?_;refine yO ?_;refine yT ?_
   refine yO ?_;refine yU ?_;refine yT ?_;refine yM ?_;refine yO ?_;refine yM ?_;refine yO ?_;refine yD ?_;refine yO ?_
   refine yW ?_;refine yO ?_;refine yM ?_;refine yO ?_;refine yM ?_;refine yO ?_;refine yD ?_;refine yO ?_
   refine yW ?_;refine yO ?_;refine yM ?_;refine yO ?_;refine yM ?_;refine yO ?_;refine yD ?_;refine yO ?_
   refine yW ?_;refine yO ?_;refine yT ?_;refine yO ?_;refine yU ?_;refine yT ?_;refine yM ?_;refine y3 ?_;refine aG ?_
   exact aD hL rfl rfl
 ·have ev:(decide (k≤40)&&(decide (n≤5)||decide (8<n∧n≤10))&&(decide (m≤3)||decide (6<m∧m≤8)))=false:=by(try simp only[Bool.and_eq_false_iff,Bool.or_eq_false_iff,Bool.and_eq_true,Bool.or_eq_true,decide_eq_true_eq,decide_eq_false_iff_not]);omega
  rw[ev]
  clear ev
  have m2:aA .leq (.int .i64 (n:Nat)) (.int .i64 5)=some (.bool false):=fO (by omega)
  have m3:aA .gtr (.int .i64 (n:Nat)) (.int .i64 8)=some (.bool true):=gX (by omega)
  have m4:aA .leq (.int .i64 (n:Nat)) (.int .i64 10)=some (.bool false):=fO (by omega)
  refine y4 ?_;refine yF ?_;refine yV ?_
  refine yC ?_
  refine FW.pu C ?_
  refine yW ?_;refine yM ?_;refine yO ?_;refine yM ?_;refine yO ?_;refine yD ?_;refine yO ?_;refine yW ?_
  refine yO ?_;refine yM ?_;refine yO ?_;refine yM ?_;refine yO ?_;refine yD ?_;refine yO ?_;refine yW ?_;refine yO ?_
  refine yM ?_;refine yO ?_;refine yM ?_;refine yO ?_;refine yD ?_;refine yO ?_;refine yW ?_;refine yO ?_;refine yT ?_
  refine yO ?_;refine yU ?_;refine yT ?_;refine yM ?_;refine yP ?_;refine yP ?_;refine yP ?_;refine yP ?_
  refine bA (by exact rfl) ?_;refine bA (by exact rfl) ?_;refine bA (by exact rfl) ?_;refine bA (by exact rfl) ?_;refine bA (by exact rfl) ?_;refine bA (by exact rfl) ?_;refine bA (by exact rfl) ?_;refine bA (by exact rfl) ?_;refine yP ?_;refine yU ?_
  refine yM ?_;refine y3 ?_;refine aG ?_
  exact aD hL rfl rfl
theorem WD.wR{base:Nat}{ops:List aW}{bf:List Nat}{rs:List Rec}{Q:Env→Heap→Prop}{is:List Nat}{e:Env}{h:Heap}(hK:∀hA,hA=h→WD T base ops bf Q is rs e hA):WD T base ops bf Q is rs e h:=hK h rfl
structure Lp (T:Nat→Option af):Prop where
 co:Lo T
 fe:Lj T
 f7:T 7=some f7
 f21:T 21=some (.jW pSd)
theorem vU:∀l:List Pb,dR (lW l)=true
 |[]=>rfl
 |p::l=>by
  have e:lW (p::l)=pbL p++lW l:=rfl
  rw[e];exact kH (qw p) (vU l)
theorem DV(l:List Pb)(p:Pb):lW l++pbL p=lW (l++[p]):=by simp[lW]
theorem wm:∀l:List (List Nat),dR (ssL l)=true
 |[]=>rfl
 |p::l=>by
  rw[Ak];exact kH (dB p) (wm l)
theorem Ee(l:List (List Nat))(p:List Nat):ssL l++us p=ssL (l++[p]):=by simp[ssL]
set_option maxHeartbeats 64000000 in
theorem Rr(F:Lp T){h:Heap}(hr:Rdy h)(hg:Tab h)(h2:2<h.next){w:List Nat×List Nat}(hw:IsW w){pv:Value}{l:List Pb}(sp:PbS h pv l)(hlu:l.length<4611686018427387904){ov:Value}{os:List (List Nat)}(so:SsQ h ov os)(hou:os.length<4611686018427387904){x:Pb}(hx:IsS x.cells){s:List Nat}(hs:IsS s):
 Pu T 7 [wV w,pv,ov,pbV x,sv s] h (.bool true):=by
 have hp:=F.fe.p
 refine .of hp F.f7 hr rfl ?_
 have hwc:cellsOf (wV w)=wL w:=by show(wL w).toArray.toList=_;simp
 have hsc:cellsOf (sv s)=us s:=by show(us s).toArray.toList=_;simp
 have hxc:cellsOf (pbV x)=pbL x:=by show(pbL x).toArray.toList=_;simp
 obtain⟨a,c,rfl⟩:=sp.form
 obtain⟨a2,c2,rfl⟩:=so.sl.form
 refine fB (E0:=[(1, .slice a l.length c),(2, .slice a2 os.length c2),(5, .pointer (some ⟨h.next,0,none⟩)),(8, .pointer (some ⟨h.next+1,0,none⟩)),(9, .pointer (some ⟨h.next+2,0,none⟩))]) (P:=fun h'=>Ext h h'∧h'.next=h.next+3∧h'.get h.next=some (.cells (wL w) true 1)∧h'.get (h.next+1)=some (.cells (pbL x) true 1)∧h'.get (h.next+2)=some (.cells (us s) true 1)) ?_ ?_
 ·refine aJ ?_;refine yB ?_;refine yB ?_;refine yB ?_;refine yM ?_;refine dN ?_;refine y1 ?_
  rw[hwc,hsc,hxc]
  exact⟨rfl,rfl,rfl,(((Ext.refl h).push _).push _).push _,rfl,(z4 (by show h.next<h.next+2;omega)).trans ((z4 (Nat.lt_succ_self _)).trans (z3 h _)),(z4 (Nat.lt_succ_self (h.next+1))).trans (z3 (h.push _) _),z3 ((h.push _).push _) _⟩
 rintro H ⟨x0,n0,g5,g8,g9⟩
 have W:=x0.wf hr.wf
 have hL:=x0.log.trans hr.log
 have wk:=uW hw
 have wkl:=oE hw
 have hgH:Tab H:=hg.ext x0 h2
 have sp0:=sp.ext x0
 have so0:=so.ext x0
 have C0:=O1 F.fe (h:={H with log:=[]}) (.of W) hw (a:=a) (n:=l.length) (c:=c) (a2:=a2) (m:=os.length) (c2:=c2) hlu hou
 have CS:Pu T 21 [] {H with log:=[]} (.bool true):=Py F.f21 (show Tab H from hgH)
 cases hfb:Fz w l.length os.length with
 |false=>
  rw[hfb]at C0
  refine ah ?_;refine y4 ?_;refine yV ?_;refine yM ?_;refine yM ?_
  refine yC ?_
  refine FW.pu C0 ?_
  refine yA ?_;refine yM ?_;refine yP ?_;refine yP ?_;refine yP ?_;refine yT ?_;refine yM ?_;refine yP ?_
  refine yP ?_;refine yP ?_;refine yT ?_;refine y3 ?_;refine yY ?_;refine y4 ?_
  refine yC ?_
  refine FW.pu CS ?_
  refine yM ?_;refine y3 ?_;refine aG ?_;refine eW ?_
  exact aD hL rfl rfl
 |true=>
 obtain⟨hl10,ho8⟩:=Jp hfb
 rw[hfb]at C0
 clear hfb
 by_cases hl4:4<l.length
 ·have m1:aA .gtr (.int .i64 (l.length:Nat)) (.int .i64 4)=some (.bool true):=gX (by omega)
  refine ah ?_;refine y4 ?_;refine yV ?_;refine yM ?_;refine yM ?_
  refine yC ?_
  refine FW.pu C0 ?_
  refine yA ?_;refine yM ?_;refine yO ?_;refine yM ?_;refine yO ?_;refine yD ?_;refine yO ?_;refine yW ?_
  refine yU ?_;refine yM ?_;refine yP ?_;refine yP ?_;refine yP ?_;refine yT ?_;refine y3 ?_;refine yY ?_;refine y4 ?_
  refine yC ?_
  refine FW.pu CS ?_
  refine yM ?_;refine y3 ?_;refine aG ?_;refine eW ?_
  exact aD hL rfl rfl
 have m1:aA .gtr (.int .i64 (l.length:Nat)) (.int .i64 4)=some (.bool false):=jV (by omega)
 by_cases ho2:2<os.length
 ·have m2:aA .gtr (.int .i64 (os.length:Nat)) (.int .i64 2)=some (.bool true):=gX (by omega)
  refine ah ?_;refine y4 ?_;refine yV ?_;refine yM ?_;refine yM ?_
  refine yC ?_
  refine FW.pu C0 ?_
  refine yA ?_;refine yM ?_;refine yO ?_;refine yM ?_;refine yO ?_;refine yD ?_;refine yO ?_;refine yW ?_
  refine yU ?_;refine yM ?_;refine yO ?_;refine yM ?_;refine yO ?_;refine yD ?_;refine yO ?_;refine yW ?_
  refine yU ?_;refine y3 ?_;refine yY ?_;refine y4 ?_
  refine yC ?_
  refine FW.pu CS ?_
  refine yM ?_;refine y3 ?_;refine aG ?_;refine eW ?_
  exact aD hL rfl rfl
 have m2:aA .gtr (.int .i64 (os.length:Nat)) (.int .i64 2)=some (.bool false):=jV (by omega)
 have C1:=AD F.co (h:={H with log:=[]}) (.of W) (show Tab H from hgH) (by show 2<H.next;omega) hw (sp0.log []) (by omega) (so0.log []) (by omega)
 have hM:=AW (w:=w) (l:=l) (os:=os) (x:=x)
 have hO:=AV (w:=w) (l:=l) (os:=os) (o:=s)
 have kx1:=Kf hx
 have kx2:=qv hx
 have kx3:=gw hx
 have ks1:=cD hs.len
 have ks2:=bF hs.len
 have ks3:(us s).length=8:=by rw[aI];exact hs.len
 refine ah ?_;refine y4 ?_;refine yV ?_;refine yM ?_;refine yM ?_
 refine yC ?_
 refine FW.pu C0 ?_
 clear C0
 refine yA ?_;refine yM ?_;refine yO ?_;refine yM ?_;refine yO ?_;refine yD ?_;refine yO ?_;refine yW ?_
 refine yU ?_;refine yM ?_;refine yO ?_;refine yM ?_;refine yO ?_;refine yD ?_;refine yO ?_;refine yW ?_
 refine yU ?_;refine y3 ?_;refine yX ?_;refine aH ?_;refine aV ?_;refine y4 ?_;refine yV ?_
 refine yM ?_;refine yM ?_
 refine yC ?_
 refine FW.pu C1 ?_
 clear C1
 generalize hn1:(fW w l os).1=n at*
 generalize he1:(fW w l os).2=e1 at*
 refine yM ?_;refine yE ?_;refine yE ?_;refine yM ?_;refine yM ?_;refine y3 ?_;refine ah ?_
 refine cV ?_;refine qV ?_
 refine pN rfl rfl rfl (by exact rfl) (by exact rfl) (by exact rfl) (iZ (by exact rfl) (by exact rfl)) (by refine dA (aq rfl (ct (by exact rfl) (by(simp(disch:=first|omega|(simp only[z1,z2];omega))only[z3,z4,z5,z6,z7,z1,z2,g5,g8,g9];exact rfl)) (by assumption) (by assumption)) (by exact sD _)) ?_;exact pI) ?_
 refine qM ?_
 refine aM rfl rfl rfl (by exact rfl) (by exact rfl) (by exact rfl) (ct (by exact rfl) (by(simp(disch:=first|omega|(simp only[z1,z2];omega))only[z3,z4,z5,z6,z7,z1,z2,g5,g8,g9];exact rfl)) (by assumption) (by assumption)) ?_
 refine pN rfl rfl rfl (by exact rfl) (by exact rfl) (by exact rfl) (iZ (zi kx3 rfl (by exact rfl)) rfl) (by refine dA (aq rfl (ct (by exact rfl) (by(simp(disch:=first|omega|(simp only[z1,z2];omega))only[z3,z4,z5,z6,z7,z1,z2,g5,g8,g9];exact rfl)) (by assumption) (by assumption)) (by exact LM _)) ?_;refine dA (aq rfl (fC (by exact rfl)) (by exact fq _ _ _)) ?_;refine dA (qx rfl) ?_;refine dA (aq rfl (ct (by exact rfl) (by(simp(disch:=first|omega|(simp only[z1,z2];omega))only[z3,z4,z5,z6,z7,z1,z2,g5,g8,g9];exact rfl)) (by assumption) (by assumption)) (by exact sD _)) ?_;exact pI) ?_
 refine qM ?_
 refine WD.wR ?_
 intro hA hAe
 have xa:Ext H hA:=by rw[hAe];exact((Ext.refl H).push _).push _
 have ga:hA.get H.next=some (.cells [] true 9):=by rw[hAe];exact(z4 (Nat.lt_succ_self _)).trans (z3 H _)
 have gb:hA.get (H.next+1)=some (.cells (pbL x) true 9):=by rw[hAe];exact z3 _ _
 have na:hA.next=H.next+2:=by rw[hAe];rfl
 have ga5:=(xa.old _ (by omega)).trans g5
 have ga8:=(xa.old _ (by omega)).trans g8
 clear hAe
 refine IG (lo:=H.next) (b:=H.next) (cs:=lW l) (n:=l.length) ga (by omega) (Nat.le_refl _) (sp0.sl.ext xa) (by omega) (by omega) rfl rfl rfl (by exact rfl) (by exact rfl) (by exact rfl) ?_
 rintro v1 H1 q1 xb
 have nb:=xb.next
 have gb8:=(xb.old _ (by omega)).trans ga8
 have g51:=(xb.old _ (by omega)).trans ((xa.old _ (by omega)).trans g5)
 have gb1:=(xb.old _ (by omega)).trans gb
 have x01:=xa.trans xb
 clear ga gb
 refine⟨_,by apply aB rfl (aq rfl (fC (by exact rfl)) (by exact fq _ _ _)) rfl;apply aB rfl (qx rfl) (by rfl);apply aB rfl (aq rfl (ct (by exact rfl) (by assumption) (by assumption) (by assumption)) (by exact LM _)) rfl;(repeat apply aP rfl);apply aB rfl (aq rfl (ct (by exact rfl) (by assumption) (by assumption) (by assumption)) (by exact sD _)) rfl;exact cC,?_⟩
 skip
 refine IF (lo:=H.next) (cs:=lW l) (c1:=pbL x) (n:=l.length) q1 (sq sp.ok) (vU l) (by omega) (by omega) (by omega) (by omega) (by omega) rfl rfl rfl (by exact rfl) (by exact rfl) (by exact rfl) (sU (ki (cs:=pbL x) gb1 (by exact kx1) (by exact kx3))) kx3 (qw x) ?_
 rintro v2 H2 lg s2 xc
 have x12:=((x01.lx (Nat.le_refl _)).trans xc).ext
 have n2:=x12.next
 have g52:=(x12.old _ (by omega)).trans g5
 have g92:=(x12.old _ (by omega)).trans g9
 have W2:=x12.wf W
 have hL2:=x12.log.trans hL
 have sx:PbS H2 v2 (l++[x]):=⟨by rw[List.length_append,List.length_singleton,←DV];exact s2,fun p hp=>by
  rcases List.mem_append.1 hp with hp|hp
  ·exact sp.ok p hp
  ·rw[List.mem_singleton]at hp;subst hp;exact hx⟩
 have so2:=so0.ext x12
 refine⟨_,by apply aB rfl (aq rfl (fC (by exact rfl)) (by exact fq _ _ _)) rfl;(repeat apply aP rfl);apply aB rfl (aq rfl (ct (by exact rfl) (by assumption) (by assumption) (by assumption)) (by exact sD _)) rfl;exact cC,?_⟩
 clear g51 gb1 q1 s2
 have C2:=AD F.co (h:={H2 with log:=[]}) (.of W2) (show Tab H2 from hgH.ext x12 (by omega)) (by show 2<H2.next;omega) hw (sx.log []) (by rw[List.length_append,List.length_singleton];omega) (so2.log []) (by omega)
 generalize hn2:(fW w (l++[x]) os).1=m at*
 generalize he2:(fW w (l++[x]) os).2=e2 at*
 obtain⟨va,vc,hv2⟩:=sx.form
 subst hv2
 skip
 refine qC ?_
 refine FW.puD C2 (by(repeat apply aP rfl);exact cC) ?_
 clear C2
 refine qM ?_;refine qE ?_;refine qE ?_
 refine qM ?_;refine qM ?_;refine dy ?_;refine y1 ?_;refine aV ?_;refine ah ?_;refine cV ?_
 refine qV ?_;refine qM ?_
 refine pN rfl rfl rfl (by exact rfl) (by exact rfl) (by exact rfl) (iZ (by exact rfl) (by exact rfl)) (by refine dA (aq rfl (fC (by exact rfl)) (by exact fq _ _ _)) ?_;refine dA (aq rfl (ct (by exact rfl) (by(simp(disch:=first|omega|(simp only[z1,z2];omega))only[z3,z4,z5,z6,z7,z1,z2,g5,g8,g9,ga5,ga8,gb8,g52,g92];exact rfl)) (by assumption) (by assumption)) (by exact sD _)) ?_;exact pI) ?_
 refine qM ?_
 refine aM rfl rfl rfl (by exact rfl) (by exact rfl) (by exact rfl) (ct (by exact rfl) (by(simp(disch:=first|omega|(simp only[z1,z2];omega))only[z3,z4,z5,z6,z7,z1,z2,g5,g8,g9,ga5,ga8,gb8,g52,g92];exact rfl)) (by assumption) (by assumption)) ?_
 refine pN rfl rfl rfl (by exact rfl) (by exact rfl) (by exact rfl) (iZ (zi ks3 rfl (by exact rfl)) rfl) (by refine dA (aq rfl (ct (by exact rfl) (by(simp(disch:=first|omega|(simp only[z1,z2];omega))only[z3,z4,z5,z6,z7,z1,z2,g5,g8,g9,ga5,ga8,gb8,g52,g92];exact rfl)) (by assumption) (by assumption)) (by exact qA _)) ?_;refine dA (aq rfl (fC (by exact rfl)) (by exact fq _ _ _)) ?_;refine dA (qx rfl) ?_;refine dA (aq rfl (fC (by exact rfl)) (by exact fq _ _ _)) ?_;refine dA (aq rfl (ct (by exact rfl) (by(simp(disch:=first|omega|(simp only[z1,z2];omega))only[z3,z4,z5,z6,z7,z1,z2,g5,g8,g9,ga5,ga8,gb8,g52,g92];exact rfl)) (by assumption) (by assumption)) (by exact sD _)) ?_;exact pI) ?_
 skip
 refine WD.wR ?_
 intro hA hAe
 have xd:Ext H2 hA:=by rw[hAe];exact((Ext.refl H2).push _).push _
 have gd:hA.get H2.next=some (.cells [] true 8):=by rw[hAe];exact(z4 (Nat.lt_succ_self _)).trans (z3 H2 _)
 have ge:hA.get (H2.next+1)=some (.cells (us s) true 8):=by rw[hAe];exact z3 _ _
 have nd:hA.next=H2.next+2:=by rw[hAe];rfl
 have gd5:=(xd.old _ (by omega)).trans g52
 have gd9:=(xd.old _ (by omega)).trans g92
 clear hAe
 refine IG (lo:=H2.next) (b:=H2.next) (cs:=ssL os) (n:=os.length) gd (by omega) (Nat.le_refl _) (so2.sl.ext xd) (by omega) (by omega) rfl rfl rfl (by exact rfl) (by exact rfl) (by exact rfl) ?_
 rintro v3 H3 q3 xe
 have ne:=xe.next
 have ge9:=(xe.old _ (by omega)).trans gd9
 have g53:=(xe.old _ (by omega)).trans ((xd.old _ (by omega)).trans g52)
 have ge3:=(xe.old _ (by omega)).trans ge
 have x23:=xd.trans xe
 clear gd ge
 refine⟨_,by apply aB rfl (qx rfl) (by rfl);apply aB rfl (aq rfl (ct (by exact rfl) (by assumption) (by assumption) (by assumption)) (by exact qA _)) rfl;(repeat apply aP rfl);apply aB rfl (aq rfl (fC (by exact rfl)) (by exact fq _ _ _)) rfl;apply aB rfl (aq rfl (ct (by exact rfl) (by assumption) (by assumption) (by assumption)) (by exact sD _)) rfl;exact cC,?_⟩
 skip
 refine IF (lo:=H2.next) (cs:=ssL os) (c1:=us s) (n:=os.length) q3 (bK.len so.sl) (wm os) (by omega) (by omega) (by omega) (by omega) (by omega) rfl rfl rfl (by exact rfl) (by exact rfl) (by exact rfl) (sU (ki (cs:=us s) ge3 (by exact ks1) (by exact ks3))) ks3 (dB s) ?_
 rintro v4 H4 lg4 s4 xf
 have x24:=((x23.lx (Nat.le_refl _)).trans xf).ext
 have x04:=x12.trans x24
 have n4:=x24.next
 have W4:=x24.wf W2
 have hL4:=x24.log.trans hL2
 have g54:=(x24.old _ (by omega)).trans g52
 have sy:SsQ H4 v4 (os++[s]):=⟨by rw[List.length_append,List.length_singleton,←Ee];exact s4,fun p hp=>by
  rcases List.mem_append.1 hp with hp|hp
  ·exact so.ok p hp
  ·rw[List.mem_singleton]at hp;subst hp;exact hs⟩
 have sp4:=sp0.ext x04
 refine⟨_,by(repeat apply aP rfl);apply aB rfl (aq rfl (fC (by exact rfl)) (by exact fq _ _ _)) rfl;apply aB rfl (aq rfl (ct (by exact rfl) (by assumption) (by assumption) (by assumption)) (by exact sD _)) rfl;exact cC,?_⟩
 clear g53 ge3 q3 s4
 have C3:=AD F.co (h:={H4 with log:=[]}) (.of W4) (show Tab H4 from hgH.ext x04 (by omega)) (by show 2<H4.next;omega) hw (sp4.log []) (by omega) (sy.log []) (by rw[List.length_append,List.length_singleton];omega)
 have CS4:Pu T 21 [] {H4 with log:=[]} (.bool true):=Py F.f21 (show Tab H4 from hgH.ext x04 (by omega))
 generalize hn3:(fW w l (os++[s])).1=k at*
 generalize he3:(fW w l (os++[s])).2=e3 at*
 obtain⟨vb,vd,hv4⟩:=sy.sl.form
 subst hv4
 skip
 refine qC ?_
 refine FW.puD C3 (by(repeat apply aP rfl);exact cC) ?_
 clear C3
 by_cases z1:e1=0
 case neg=>
  have z3:e3≠0:=fun q=>z1 (hO q).1
  have me1:aA .eql (.int .i64 e1) (.int .i64 0)=some (.bool false):=pn z1
  have me3:aA .neq (.int .i64 e3) (.int .i64 0)=some (.bool true):=mE z3
  refine qM ?_;refine qE ?_;refine qE ?_
  refine qM ?_;refine qM ?_;refine dy ?_;refine y1 ?_;refine aV ?_;refine ah ?_;refine y4 ?_
  refine yM ?_;refine yW ?_;refine yM ?_;refine yP ?_;refine yP ?_;refine yU ?_;refine yM ?_
  refine yP ?_;refine yP ?_;refine yP ?_;refine yU ?_;refine yM ?_;refine yO ?_;refine yM ?_;refine yO ?_
  refine yW ?_;refine yO ?_;refine yM ?_;refine yP ?_;refine yP ?_;refine yO ?_;refine yU ?_;refine yU ?_
  refine y3 ?_;refine yX ?_;refine aH ?_;refine aV ?_;refine y4 ?_
  refine yC ?_
  refine FW.pu CS4 ?_
  refine yM ?_;refine yO ?_;refine yM ?_;refine yO ?_;refine yW ?_;refine yO ?_;refine yM ?_;refine yP ?_;refine yP ?_
  refine yP ?_;refine bA (by exact rfl) ?_;refine bA (by exact rfl) ?_;refine bA (by exact rfl) ?_;refine yP ?_;refine yO ?_;refine yT ?_;refine yT ?_;refine yM ?_
  refine y3 ?_;refine aG ?_
  exact aD hL4 rfl rfl
 have me1:aA .eql (.int .i64 e1) (.int .i64 0)=some (.bool true):=AP z1
 obtain⟨hM1,hM2⟩:=hM z1
 have m81:aA .eql (.int .i64 e2) (.int .i64 81)=some (.bool false):=pn hM1
 by_cases z2:e2=0
 ·have me2:aA .eql (.int .i64 e2) (.int .i64 0)=some (.bool true):=AP z2
  have mgt:aA .gtr (.int .i64 m) (.int .i64 n)=some (.bool false):=jV (by have:=hM2 z2;omega)
  by_cases z3:e3=0
  ·have me3:aA .neq (.int .i64 e3) (.int .i64 0)=some (.bool false):=AR z3
   have mge:aA .geq (.int .i64 k) (.int .i64 n)=some (.bool true):=xk (hO z3).2
   refine qM ?_;refine qE ?_;refine qE ?_
   refine qM ?_;refine qM ?_;refine dy ?_;refine y1 ?_;refine aV ?_;refine ah ?_;refine y4 ?_
   refine yM ?_;refine yW ?_;refine yM ?_;refine yO ?_;refine yM ?_;refine yO ?_;refine yW ?_
   refine yT ?_;refine yM ?_;refine yO ?_;refine yM ?_;refine yO ?_;refine yM ?_;refine yO ?_;refine yW ?_
   refine yT ?_;refine yM ?_;refine yO ?_;refine yM ?_;refine yO ?_;refine yW ?_;refine yO ?_;refine yM ?_;refine yO ?_
   refine yM ?_;refine yO ?_;refine yW ?_;refine yO ?_;refine yT ?_;refine yU ?_;refine y3 ?_;refine yX ?_;refine aH ?_;refine aV ?_;refine y4 ?_
   refine yC ?_
   refine FW.pu CS4 ?_
   refine yM ?_;refine yO ?_;refine yM ?_;refine yO ?_;refine yW ?_;refine yO ?_;refine yM ?_;refine yO ?_;refine yM ?_
   refine yO ?_;refine yW ?_;refine yO ?_;refine yM ?_;refine yO ?_;refine yM ?_;refine yO ?_;refine yM ?_;refine yO ?_
   refine yW ?_;refine yO ?_;refine yT ?_;refine yO ?_;refine yU ?_;refine yT ?_;refine yM ?_;refine y3 ?_;refine aG ?_
   exact aD hL4 rfl rfl
  ·have me3:aA .neq (.int .i64 e3) (.int .i64 0)=some (.bool true):=mE z3
   refine qM ?_;refine qE ?_;refine qE ?_
   refine qM ?_;refine qM ?_;refine dy ?_;refine y1 ?_;refine aV ?_;refine ah ?_;refine y4 ?_
   refine yM ?_;refine yW ?_;refine yM ?_;refine yO ?_;refine yM ?_;refine yO ?_;refine yW ?_
   refine yT ?_;refine yM ?_;refine yO ?_;refine yM ?_;refine yO ?_;refine yM ?_;refine yO ?_;refine yW ?_
   refine yT ?_;refine yM ?_;refine yO ?_;refine yM ?_;refine yO ?_;refine yW ?_;refine yO ?_;refine yM ?_;refine yO ?_
   refine yM ?_;refine yO ?_;refine yW ?_;refine yO ?_;refine yT ?_;refine yU ?_;refine y3 ?_;refine yX ?_;refine aH ?_;refine aV ?_;refine y4 ?_
   refine yC ?_
   refine FW.pu CS4 ?_
   refine yM ?_;refine yO ?_;refine yM ?_;refine yO ?_;refine yW ?_;refine yO ?_;refine yM ?_;refine yP ?_;refine yP ?_
   refine yP ?_;refine bA (by exact rfl) ?_;refine bA (by exact rfl) ?_;refine bA (by exact rfl) ?_;refine yP ?_;refine yO ?_;refine yT ?_;refine yT ?_;refine yM ?_
   refine y3 ?_;refine aG ?_
   exact aD hL4 rfl rfl
 ·have me2:aA .eql (.int .i64 e2) (.int .i64 0)=some (.bool false):=pn z2
  by_cases z3:e3=0
  ·have me3:aA .neq (.int .i64 e3) (.int .i64 0)=some (.bool false):=AR z3
   have mge:aA .geq (.int .i64 k) (.int .i64 n)=some (.bool true):=xk (hO z3).2
   refine qM ?_;refine qE ?_;refine qE ?_
   refine qM ?_;refine qM ?_;refine dy ?_;refine y1 ?_;refine aV ?_;refine ah ?_;refine y4 ?_
   refine yM ?_;refine yW ?_;refine yM ?_;refine yO ?_;refine yM ?_;refine yO ?_;refine yW ?_
   refine yT ?_;refine yM ?_;refine yP ?_;refine yP ?_;refine yP ?_;refine yU ?_;refine yM ?_;refine yO ?_
   refine yM ?_;refine yO ?_;refine yW ?_;refine yO ?_;refine yM ?_;refine yO ?_;refine yM ?_;refine yO ?_
   refine yW ?_;refine yO ?_;refine yT ?_;refine yU ?_;refine y3 ?_
   refine yX ?_;refine aH ?_;refine aV ?_;refine y4 ?_
   refine yC ?_
   refine FW.pu CS4 ?_
   refine yM ?_;refine yO ?_;refine yM ?_;refine yO ?_;refine yW ?_;refine yO ?_;refine yM ?_;refine yO ?_;refine yM ?_
   refine yO ?_;refine yW ?_;refine yO ?_;refine yM ?_;refine yO ?_;refine yM ?_;refine yO ?_;refine yM ?_;refine yO ?_
   refine yW ?_;refine yO ?_;refine yT ?_;refine yO ?_;refine yU ?_;refine yT ?_;refine yM ?_;refine y3 ?_;refine aG ?_
   exact aD hL4 rfl rfl
  ·have me3:aA .neq (.int .i64 e3) (.int .i64 0)=some (.bool true):=mE z3
   refine qM ?_;refine qE ?_;refine qE ?_
   refine qM ?_;refine qM ?_;refine dy ?_;refine y1 ?_;refine aV ?_;refine ah ?_;refine y4 ?_
   refine yM ?_;refine yW ?_;refine yM ?_;refine yO ?_;refine yM ?_;refine yO ?_;refine yW ?_
   refine yT ?_;refine yM ?_;refine yP ?_;refine yP ?_;refine yP ?_;refine yU ?_;refine yM ?_;refine yO ?_
   refine yM ?_;refine yO ?_;refine yW ?_;refine yO ?_;refine yM ?_;refine yO ?_;refine yM ?_;refine yO ?_
   refine yW ?_;refine yO ?_;refine yT ?_;refine yU ?_;refine y3 ?_
   refine yX ?_;refine aH ?_;refine aV ?_;refine y4 ?_
   refine yC ?_
   refine FW.pu CS4 ?_
   refine yM ?_;refine yO ?_;refine yM ?_;refine yO ?_;refine yW ?_;refine yO ?_;refine yM ?_;refine yP ?_;refine yP ?_
   refine yP ?_;refine bA (by exact rfl) ?_;refine bA (by exact rfl) ?_;refine bA (by exact rfl) ?_;refine yP ?_;refine yO ?_;refine yT ?_;refine yT ?_;refine yM ?_
   refine y3 ?_;refine aG ?_
   exact aD hL4 rfl rfl
end Go.A.Pk
end
section
set_option maxRecDepth 100000
namespace Go.A.Pk
open Go Go.Proofs Go.Joins Go.ChangeShapes Go.WideShapes Go.RowKit Go.Deep
section
variable {H:Type} {enc:TypeId×Value→H} {W:World} {base:Nat} {spare:Nat→Bool} {held:Bool}
theorem xz{t e:TypeId}{n:Nat}{v:Value}(ht:Tryz.prog.underlying t=some (.array n e))(h:Value.okWide Tryz.prog W .any base t v):∃cs,v= .agg cs:=by
 simp only[Value.okWide,ht]at h
 obtain⟨cs,h1,_⟩:=h
 exact⟨cs,h1⟩
theorem Bf{v:Value}{d:DataW H}{p:List MemPlace}(hv:Value.okWide Tryz.prog W .any base 24 v)(h:DataW.Trod enc Tryz.prog W 0 spare held 24 v d p):∃s:List Nat,IsS s∧v=sv s:=by
 obtain⟨cs,rfl⟩:=xz Tryz.underlying24 hv
 obtain⟨fuel,hf⟩:=h
 obtain⟨s,hs,hk⟩:=jT hf
 refine⟨s,hs,?_⟩
 have:cs=(us s).toArray:=by rw[←hk];simp[Value.cells]
 rw[this];rfl
end
end Go.A.Pk
end
section
set_option maxRecDepth 100000
namespace Go.A.Pk
open Go Go.Proofs Go.Joins Go.ChangeShapes Go.WideShapes Go.RowKit Go.Deep
section
variable {H:Type} {enc:TypeId×Value→H} {W:World} {base:Nat} {spare:Nat→Bool} {held:Bool}
theorem Jk:Tryz.prog.cellsOf 26=16:=by kernel_rfl
theorem BH{fuel:Nat}{cs:List Value}{x:DataW H×List MemPlace}(h:DataW.trod enc Tryz.prog W base spare held fuel 26 cs=some x):∃w:List Nat×List Nat,IsW w∧cs=wL w:=by
 obtain⟨xs,n,_,hx,hcl,hlen,hg⟩:=DataW.trod_struct Tryz.underlying26 h
 rw[Jk]at hcl
 match cs,hcl with
 |[c0,c1,c2,c3,c4,c5,c6,c7,c8,c9,c10,c11,c12,c13,c14,c15],_=>
  match xs,hlen with
  |[yq0,yq1],_=>
   have g0:DataW.trod enc Tryz.prog W base spare held n 24 [c0,c1,c2,c3,c4,c5,c6,c7]=some yq0:=by have:=hg 0 _ rfl;simpa[pY]using this
   have g1:DataW.trod enc Tryz.prog W base spare held n 24 [c8,c9,c10,c11,c12,c13,c14,c15]=some yq1:=by have:=hg 1 _ rfl;simpa[pY]using this
   obtain⟨s0,h0,e0⟩:=jT g0
   obtain⟨s1,h1,e1⟩:=jT g1
   refine⟨(s0,s1),⟨h0,h1⟩,?_⟩
   show _=us s0++us s1
   rw[←e0,←e1];rfl
theorem DT{v:Value}{d:DataW H}{p:List MemPlace}(hv:Value.okWide Tryz.prog W .any base 26 v)(h:DataW.Trod enc Tryz.prog W 0 spare held 26 v d p):∃w:List Nat×List Nat,IsW w∧v=wV w:=by
 obtain⟨cs,rfl,_⟩:=okWide_struct Tryz.underlying26 hv
 obtain⟨fuel,hf⟩:=h
 have hf:DataW.trod enc Tryz.prog W 0 spare held fuel 26 cs.toList=some (d,p):=by simpa[Value.cells]using hf
 obtain⟨w,hw,e⟩:=BH hf
 refine⟨w,hw,?_⟩
 have hcs:cs=cs.toList.toArray:=by simp
 rw[hcs,e];rfl
end
end Go.A.Pk
end
section
set_option maxRecDepth 100000
namespace Go.A.Pk
open Go Go.Proofs Go.Joins Go.ChangeShapes Go.WideShapes Go.RowKit Go.Deep
theorem zl{α:Type}{cL:α→List Value}{k:Nat}:∀{l:List α},(∀a∈l,(cL a).length=k)→(l.flatMap cL).length=l.length*k
 |[],_=>by simp
 |a::l,h=>by
  rw[List.flatMap_cons,List.length_append,h a List.mem_cons_self,zl fun x hx=>h x (List.mem_cons_of_mem _ hx),List.length_cons,Nat.add_mul];omega
theorem zk{α:Type}{cL:α→List Value}{k:Nat}:∀{l:List α} {i j:Nat} {a:α},(∀a∈l,(cL a).length=k)→l[i]? =some a→j<k→(l.flatMap cL)[i*k+j]? =(cL a)[j]?
 |[],i,j,a,_,h,_=>by simp at h
 |b::l,0,j,a,hl,h,hj=>by
  simp at h
  subst h
  rw[List.flatMap_cons,Nat.zero_mul,Nat.zero_add,List.getElem?_append_left (by rw[hl b List.mem_cons_self];exact hj)]
 |b::l,i+1,j,a,hl,h,hj=>by
  have hb:=hl b List.mem_cons_self
  rw[List.flatMap_cons,List.getElem?_append_right (by rw[hb,Nat.add_mul];omega),hb,show(i+1)*k+j-k=i*k+j by rw[Nat.add_mul];omega]
  exact zk (fun x hx=>hl x (List.mem_cons_of_mem _ hx)) (by simpa using h) hj
section
variable {H:Type} {enc:TypeId×Value→H} {W:World} {base:Nat} {held:Bool}
theorem um{α:Type}[Inhabited α]{st et k bsz:Nat}(hu:Tryz.prog.underlying st=some (.slice et))(hk:Tryz.prog.cellsOf et=k)(hk0:0<k)(hbs:Tryz.prog.bytesOf et=bsz)(hb0:0<bsz)(ok:α→Prop)(cL:α→List Value)(hlen:∀a,ok a→(cL a).length=k)(hno:∀a,∀v∈cL a,cB v=true)
 (hel:∀{fuel:Nat} {cs:List Value} {x:DataW H×List MemPlace},DataW.trod enc Tryz.prog W 0 (fun _=>true) held fuel et cs=some x→∃a,ok a∧cs=cL a)
 {v:Value}{d:DataW H}{p:List MemPlace}(hv:Value.okWide Tryz.prog W .any base st v)(h:DataW.Trod enc Tryz.prog W 0 (fun _=>true) held st v d p)(hz:∀n∈d.weights Tryz.prog st,n≤reachBytes):∃l:List α,iY W k v l.length (l.flatMap cL)∧∀a∈l,ok a:=by
 have hcell:Cell.okWide Tryz.prog W .any base st v:=by
  simpa only[Value.okWide,hu]using hv
 obtain⟨a0,len0,cap0,rfl⟩:=okWide_slice hu hv
 obtain⟨fuel,hf⟩:=h
 have hf:DataW.trod enc Tryz.prog W 0 (fun _=>true) held fuel st [.slice a0 len0 cap0]=some (d,p):=by simpa[Value.cells]using hf
 rcases open_slice hu hf with⟨h2,_⟩|⟨a,len,cap,m,n',D,Pl,h2,_,hl,hcap,hm,hy,hx⟩
 ·cases h2
  exact⟨[], .nil,fun x hx=>by cases hx⟩
 ·cases h2
  simp only[Cell.okWide,Cell.ok,hu,World.has]at hcell
  obtain⟨_,_,_,hspot,row,cells,hsh,_⟩:=hcell
  obtain⟨b,o,sp⟩:=a
  simp only at hspot hsh
  subst hspot
  rw[if_pos rfl]at hm
  subst hm
  have hcapU:m*bsz≤reachBytes:=by
   refine hz (m*bsz) ?_
   cases hy
   simp only[DataW.weights,hu,hbs,List.length_map,List.length_range,show len0+(m-len0)=m by omega]
   simp
  have hmU:m<UNK:=by
   have:m*1≤m*bsz:=Nat.mul_le_mul_left _ hb0
   unfold reachBytes at hcapU
   unfold UNK
   omega
  obtain⟨c,el,fz,hheap⟩:∃c el fz,W.heap[b]? =some (.cells c el fz):=by
   unfold World.shape? at hsh
   split at hsh
   ·rename_i c el fz he;exact⟨c,el,fz,he⟩
   ·cases hsh
  obtain⟨f,hf⟩:=choose_lt (α:=α) (n:=len0) (p:=fun i x=>ok x∧∀j,j<k→c[o+(i*k+j)]? =(cL x)[j]?) (fun i hi=>by
   obtain⟨cs',hc,ht⟩:=hx i (by omega)
   obtain⟨x,hx2,hxk⟩:=hel ht
   subst hxk
   refine⟨x,hx2,fun j hj=> ?_⟩
   rw[hk]at hc
   obtain⟨_,_,hat⟩:=World.cells?_some hc
   have:=hat j hj
   rw[add_eq,add_eq]at this
   rw[←this,Nat.add_assoc]
   unfold World.cell?
   simp only[hheap]
   rfl)
  by_cases h0:len0=0
  ·subst h0
   exact⟨[], .empty hheap hmU,fun x hx=>by cases hx⟩
  ·have hll:((List.range len0).map f).length=len0:=by simp
   have hok:∀r∈(List.range len0).map f,ok r:=fun x hx=>by
    obtain⟨i,hi,rfl⟩:=List.mem_map.1 hx
    exact(hf i (List.mem_range.1 hi)).1
   refine⟨(List.range len0).map f,?_,hok⟩
   rw[hll]
   refine .full hheap h0 (by rw[zl fun a ha=>hlen a (hok a ha),hll]) hk0 hl hmU (fun j hj=> ?_) (fun v hv=> ?_)
   ·have h5:j / k<len0:=by rw[Nat.div_lt_iff_lt_mul hk0];exact hj
    have e1:j=j / k*k+j % k:=(Nat.div_add_mod' j k).symm
    have g1:=(hf (j / k) h5).2 (j % k) (Nat.mod_lt _ hk0)
    have g2:=zk (cL:=cL) (k:=k) (l:=(List.range len0).map f) (i:=j / k) (j:=j % k) (a:=f (j / k)) (fun a ha=>hlen a (hok a ha)) (by simp[h5]) (Nat.mod_lt _ hk0)
    rw[←e1]at g1 g2
    rw[g1,g2]
   ·obtain⟨a,_,ha⟩:=List.mem_flatMap.1 hv
    exact hno a v ha
theorem BY:Tryz.prog.cellsOf 67=9:=by kernel_rfl
theorem su{fuel:Nat}{cs:List Value}{spare:Nat→Bool}{x:DataW H×List MemPlace}(h:DataW.trod enc Tryz.prog W base spare held fuel 67 cs=some x):∃p:Pb,IsS p.cells∧cs=pbL p:=by
 obtain⟨xs,n,_,hx,hcl,hlen,hg⟩:=DataW.trod_struct Tryz.underlying67 h
 rw[BY]at hcl
 match cs,hcl with
 |[c0,c1,c2,c3,c4,c5,c6,c7,c8],_=>
  match xs,hlen with
  |[y0,y1],_=>
   have g3:DataW.trod enc Tryz.prog W base spare held n 24 [c0,c1,c2,c3,c4,c5,c6,c7]=some y0:=by have:=hg 0 _ rfl;simpa[pY]using this
   have g4:DataW.trod enc Tryz.prog W base spare held n 3 [c8]=some y1:=by have:=hg 1 _ rfl;simpa[L9]using this
   obtain⟨pl,hp,h3⟩:=jT g3
   obtain⟨a4,h4,_⟩:=DataW.trod_int Tryz.underlying3 g4
   cases h4
   refine⟨⟨pl,a4⟩,hp,?_⟩
   show _=us pl++[_]
   rw[←h3];rfl
theorem zL(s:List Nat):∀v∈us s,cB v=true:=fun v hv=>by
 obtain⟨n,_,rfl⟩:=List.mem_map.1 hv
 rfl
theorem DB(p:Pb):∀v∈pbL p,cB v=true:=fun v hv=>by
 rcases List.mem_append.1 hv with q|q
 ·exact zL _ v q
 ·rw[List.mem_singleton.1 q];rfl
instance:Inhabited Pb:=⟨⟨[],0⟩⟩
def Lt(W:World)(v:Value)(l:List Pb):Prop:=iY W 9 v l.length (lW l)∧∀p∈l,IsS p.cells
theorem zR{v:Value}{d:DataW H}{p:List MemPlace}(hv:Value.okWide Tryz.prog W .any base 35 v)(h:DataW.Trod enc Tryz.prog W 0 (fun _=>true) held 35 v d p)(hz:∀n∈d.weights Tryz.prog 35,n≤reachBytes):∃l,Lt W v l:=
 um (α:=Pb) Tryz.underlying35 BY (by decide) (show Tryz.prog.bytesOf 67=72 by kernel_rfl) (by decide) (fun p=>IsS p.cells) pbL (fun p h=>gw h) DB (fun h=>su h) hv h hz
def NS(W:World)(v:Value)(l:List (List Nat)):Prop:=iY W 8 v l.length (ssL l)∧∀s∈l,IsS s
theorem zT{v:Value}{d:DataW H}{p:List MemPlace}(hv:Value.okWide Tryz.prog W .any base 29 v)(h:DataW.Trod enc Tryz.prog W 0 (fun _=>true) held 29 v d p)(hz:∀n∈d.weights Tryz.prog 29,n≤reachBytes):∃l,NS W v l:=
 um (α:=List Nat) Tryz.underlying29 pY (by decide) (show Tryz.prog.bytesOf 24=64 by kernel_rfl) (by decide) IsS us (fun p h=>by rw[aI,h.len]) zL (fun h=>jT h) hv h hz
end
theorem Mp{W:World}{G:Gl}(hG:sY W G){z1 n1 z2 n2 z3 n3:Nat}{s1 s2 s3:Value}{c1 c2 c3:List Value}(h1:iY W z1 s1 n1 c1)(h2:iY W z2 s2 n2 c2)(h3:iY W z3 s3 n3 c3):
 ∃(h:Heap) (μ:Mu),R Tryz.prog μ h W∧(∀b o,h.get b=some o→o.ro=true∨o.live=false)∧Rdy h∧1000≤h.next∧(∀g vs,(g,vs)∈G→h.get g=some (.cells vs false 1))∧
 (∃a c,VR μ (.slice a n1 c) s1∧bK h z1 (.slice a n1 c) n1 c1∧c<UNK)∧(∃a c,VR μ (.slice a n2 c) s2∧bK h z2 (.slice a n2 c) n2 c2∧c<UNK)∧(∃a c,VR μ (.slice a n3 c) s3∧bK h z3 (.slice a n3 c) n3 c3∧c<UNK):=by
 obtain⟨o1,k1,q1⟩:=h1.lay hG
 obtain⟨o2,k2,q2⟩:=h2.lay hG
 obtain⟨o3,k3,q3⟩:=h3.lay hG
 have hat:∀(A B C:List Ob) (o:Ob),B[0]? =some o→(A++B++C)[A.length]? =some o:=fun A B C o ho=>by
  have hl:=(List.getElem?_eq_some_iff.1 ho).1
  rw[List.append_assoc,List.getElem?_append_right (Nat.le_refl _),Nat.sub_self,List.getElem?_append_left hl];exact ho
 refine⟨obH G (o1++o2++o3),obM G (o1++o2++o3),R.obs hG fun o ho=> ?_,MP hG,JZ hG _,Nat.le_add_right _ _,fun g vs h=>MO hG _ h,q1 _ 0 fun o ho=> ?_,q2 _ o1.length (hat o1 o2 o3),q3 _ (o1++o2).length fun o ho=> ?_⟩
 ·rcases List.mem_append.1 ho with ho|ho
  ·rcases List.mem_append.1 ho with ho|ho
   ·exact k1 _ o ho
   ·exact k2 _ o ho
  ·exact k3 _ o ho
 ·have:=hat [] o1 (o2++o3) o ho
  rwa [List.nil_append,←List.append_assoc]at this
 ·have:=hat (o1++o2) o3 [] o ho
  rwa [List.append_nil]at this
end Go.A.Pk
end
section
set_option maxRecDepth 100000
namespace Go.A.Pk
open Go Go.Proofs
theorem O6:mc.h0=DJ 2 (y7.map fun n=> .int .u8 (n:Nat)) 1000:=by kernel_rfl
theorem Ru:Entry Tryz.prog 21 (.jW pSd):= .jW (Ht sound (g:=2) (n:=1000) (vs:=y7.map fun n=> .int .u8 (n:Nat)) Tryz.func21 (of_decide_eq_true (by kernel_rfl)) (by kernel_rfl) lM (by decide) (by kernel_rfl) (by kernel_rfl) fun args v h h' hp=>by
 unfold pSd at hp
 split at hp
 ·split at hp
  ·rename_i hT
   cases hp
   refine⟨rfl,hT,fun a ha=>(nomatch ha),rfl,?_⟩
   rw[←O6]
   exact mc.run
  ·cases hp
 ·cases hp)
end Go.A.Pk
end
section
set_option maxRecDepth 100000
namespace Go.A.Pk
open Go Go.Proofs
theorem c7:aO Tryz.prog Tryz.f7 [[1,2,5,8,9],[1,2,5,8,9,31],[10],[1,2,5,8,9,11,12],[1,2,5,9,11,12,13,14],[11,12,13,14,15,16],[11,12,15,16,82],[10],[10]]=some f7:=by kernel_rfl
theorem c25:aO Tryz.prog Tryz.f25 [[1,2,3],[6]]=some f25:=by kernel_rfl
theorem c35:aO Tryz.prog Tryz.f35 [[2,3],[4]]=some f35:=by kernel_rfl
theorem c84:aO Tryz.prog Tryz.f84 [[1],[2]]=some f84:=by kernel_rfl
theorem QL:aO Tryz.prog Tryz.f170 [[1],[1,3],[1,3,4],[1,3,4,9],[1,3,4,5],[1,3,4,5,13],[1,3,4,5,6],[1,3,4,5,6,17],[1,3,4,5,6,7],[1,3,4,5,6,7,26],[1,3,4,5,6],[1,3,4,5,6],[1,3,4,5],[1,3,4],[2]]=some f170:=by kernel_rfl
theorem QM:aO Tryz.prog Tryz.f171 [[2,3],[4]]=some f171:=by kernel_rfl
theorem Q8:aO Tryz.prog Tryz.f225 [[1],[2]]=some f225:=by kernel_rfl
noncomputable def Iz:Tr:=(.node (.node (.node (.node (.node (.node (.node .nil 7 f7 .nil) 21 (.jW pSd) .nil) 22 f22 (.node .nil 25 f25 .nil)) 34 f34 (.node (.node .nil 35 f35 .nil) 39 f39 (.node .nil 62 f62 .nil))) 72 f72 (.node (.node (.node (.node .nil 84 f84 .nil) 89 f89 .nil) 90 f90 (.node .nil 91 f91 .nil)) 92 f92 (.node (.node .nil 96 f96 .nil) 106 f106 (.node .nil 108 f108 .nil)))) 120 f120 (.node (.node (.node (.node (.node .nil 121 f121 .nil) 123 f123 .nil) 124 f124 (.node .nil 126 f126 .nil)) 127 f127 (.node (.node .nil 128 f128 .nil) 141 f141 (.node .nil 143 f143 .nil))) 147 f147 (.node (.node (.node .nil 149 f149 .nil) 155 f155 (.node .nil 156 f156 .nil)) 167 f167 (.node (.node .nil 170 f170 .nil) 171 f171 (.node .nil 174 f174 .nil))))) 188 f188 (.node (.node (.node (.node (.node (.node .nil 189 (.jW (nM 168 190)) .nil) 192 f192 .nil) 193 f193 (.node .nil 194 f194 .nil)) 195 f195 (.node (.node .nil 196 f196 .nil) 197 f197 (.node .nil 201 f201 .nil))) 207 f207 (.node (.node (.node (.node .nil 209 f209 .nil) 210 f210 .nil) 211 f211 (.node .nil 212 f212 .nil)) 213 f213 (.node (.node .nil 214 f214 .nil) 215 f215 (.node .nil 225 f225 .nil)))) 226 f226 (.node (.node (.node (.node (.node .nil 228 f228 .nil) 231 f231 .nil) 254 f254 (.node .nil 257 f257 .nil)) 261 f261 (.node (.node .nil 262 f262 .nil) 263 f263 (.node .nil 264 f264 .nil))) 265 f265 (.node (.node (.node .nil 266 f266 .nil) 317 f317 (.node .nil 318 f318 .nil)) 319 f319 (.node (.node .nil 320 f320 .nil) 321 f321 (.node .nil 322 f322 .nil))))))
noncomputable def T7:Nat→Option af:=Iz.get
theorem Qj:Iz.all (Entry Tryz.prog):=by
 unfold Iz
 exact(Tr.aa (Tr.aa (Tr.aa (Tr.aa (Tr.aa (Tr.aa (Tr.aa Tr.all_nil (.of Tryz.func7 c7) Tr.all_nil) Ru Tr.all_nil) (.of Tryz.func22 c22) (Tr.aa Tr.all_nil (.of Tryz.func25 c25) Tr.all_nil)) (.of Tryz.func34 c34) (Tr.aa (Tr.aa Tr.all_nil (.of Tryz.func35 c35) Tr.all_nil) (.of Tryz.func39 c39) (Tr.aa Tr.all_nil (.of Tryz.func62 c62) Tr.all_nil))) (.of Tryz.func72 c72) (Tr.aa (Tr.aa (Tr.aa (Tr.aa Tr.all_nil (.of Tryz.func84 c84) Tr.all_nil) (.of Tryz.func89 c89) Tr.all_nil) (.of Tryz.func90 c90) (Tr.aa Tr.all_nil (.of Tryz.func91 c91) Tr.all_nil)) (.of Tryz.func92 c92) (Tr.aa (Tr.aa Tr.all_nil (.of Tryz.func96 c96) Tr.all_nil) (.of Tryz.func106 NZ) (Tr.aa Tr.all_nil (.of Tryz.func108 N0) Tr.all_nil)))) (.of Tryz.func120 N1) (Tr.aa (Tr.aa (Tr.aa (Tr.aa (Tr.aa Tr.all_nil (.of Tryz.func121 N2) Tr.all_nil) (.of Tryz.func123 N3) Tr.all_nil) (.of Tryz.func124 N4) (Tr.aa Tr.all_nil (.of Tryz.func126 N5) Tr.all_nil)) (.of Tryz.func127 N6) (Tr.aa (Tr.aa Tr.all_nil (.of Tryz.func128 N7) Tr.all_nil) (.of Tryz.func141 N8) (Tr.aa Tr.all_nil (.of Tryz.func143 N9) Tr.all_nil))) (.of Tryz.func147 Oa) (Tr.aa (Tr.aa (Tr.aa Tr.all_nil (.of Tryz.func149 Oc) Tr.all_nil) (.of Tryz.func155 Od) (Tr.aa Tr.all_nil (.of Tryz.func156 Oe) Tr.all_nil)) (.of Tryz.func167 Of) (Tr.aa (Tr.aa Tr.all_nil (.of Tryz.func170 QL) Tr.all_nil) (.of Tryz.func171 QM) (Tr.aa Tr.all_nil (.of Tryz.func174 Og) Tr.all_nil))))) (.of Tryz.func188 Oh) (Tr.aa (Tr.aa (Tr.aa (Tr.aa (Tr.aa (Tr.aa Tr.all_nil Pv Tr.all_nil) (.of Tryz.func192 Oi) Tr.all_nil) (.of Tryz.func193 Oj) (Tr.aa Tr.all_nil (.of Tryz.func194 Ol) Tr.all_nil)) (.of Tryz.func195 Om) (Tr.aa (Tr.aa Tr.all_nil (.of Tryz.func196 On) Tr.all_nil) (.of Tryz.func197 Oo) (Tr.aa Tr.all_nil (.of Tryz.func201 Oq) Tr.all_nil))) (.of Tryz.func207 Ot) (Tr.aa (Tr.aa (Tr.aa (Tr.aa Tr.all_nil (.of Tryz.func209 Ou) Tr.all_nil) (.of Tryz.func210 Ov) Tr.all_nil) (.of Tryz.func211 Ow) (Tr.aa Tr.all_nil (.of Tryz.func212 Ox) Tr.all_nil)) (.of Tryz.func213 Oy) (Tr.aa (Tr.aa Tr.all_nil (.of Tryz.func214 Oz) Tr.all_nil) (.of Tryz.func215 OA) (Tr.aa Tr.all_nil (.of Tryz.func225 Q8) Tr.all_nil)))) (.of Tryz.func226 OB) (Tr.aa (Tr.aa (Tr.aa (Tr.aa (Tr.aa Tr.all_nil (.of Tryz.func228 OC) Tr.all_nil) (.of Tryz.func231 OD) Tr.all_nil) (.of Tryz.func254 OE) (Tr.aa Tr.all_nil (.of Tryz.func257 OF) Tr.all_nil)) (.of Tryz.func261 OG) (Tr.aa (Tr.aa Tr.all_nil (.of Tryz.func262 OH) Tr.all_nil) (.of Tryz.func263 OI) (Tr.aa Tr.all_nil (.of Tryz.func264 OJ) Tr.all_nil))) (.of Tryz.func265 OK) (Tr.aa (Tr.aa (Tr.aa Tr.all_nil (.of Tryz.func266 OL) Tr.all_nil) (.of Tryz.func317 OM) (Tr.aa Tr.all_nil (.of Tryz.func318 ON) Tr.all_nil)) (.of Tryz.func319 OO) (Tr.aa (Tr.aa Tr.all_nil (.of Tryz.func320 OP) Tr.all_nil) (.of Tryz.func321 OQ) (Tr.aa Tr.all_nil (.of Tryz.func322 OS) Tr.all_nil))))))
theorem iQ:dW Tryz.prog T7:=oA (by kernel_rfl) Qj
theorem Rh:Lp T7:={co:={od:={va:={op:={qu:={p:=iQ.bt,f35:=by kernel_rfl,f121:=by kernel_rfl,f143:=by kernel_rfl,f174:=by kernel_rfl,f207:=by kernel_rfl,f226:=by kernel_rfl},f108:=by kernel_rfl,f147:=by kernel_rfl,f149:=by kernel_rfl,f228:=by kernel_rfl},f128:=by kernel_rfl},ak:={ne:={nd:={pl:={fi:={ft:={mp:={cp:={p:=iQ.bt,f123:=by kernel_rfl,f213:=by kernel_rfl,f214:=by kernel_rfl,f264:=by kernel_rfl,f265:=by kernel_rfl,f266:=by kernel_rfl},tu:={p:=iQ.bt,f263:=by kernel_rfl,f317:=by kernel_rfl,f318:=by kernel_rfl,f319:=by kernel_rfl,f320:=by kernel_rfl,f321:=by kernel_rfl,f322:=by kernel_rfl},f126:=by kernel_rfl,f127:=by kernel_rfl,f211:=by kernel_rfl,f215:=by kernel_rfl,f261:=by kernel_rfl,f262:=by kernel_rfl},bd:={cp:={p:=iQ.bt,f123:=by kernel_rfl,f213:=by kernel_rfl,f214:=by kernel_rfl,f264:=by kernel_rfl,f265:=by kernel_rfl,f266:=by kernel_rfl},f210:=by kernel_rfl},li:={p:=iQ.bt,f212:=by kernel_rfl},co:={p:=iQ.bt,f188:=by kernel_rfl,f254:=by kernel_rfl},f35:=by kernel_rfl,f121:=by kernel_rfl,f209:=by kernel_rfl},f34:=by kernel_rfl,f120:=by kernel_rfl},f72:=by kernel_rfl,f167:=by kernel_rfl,f189:=by kernel_rfl,f192:=by kernel_rfl},f35:=by kernel_rfl,f92:=by kernel_rfl,f121:=by kernel_rfl,f124:=by kernel_rfl,f193:=by kernel_rfl,f194:=by kernel_rfl,f195:=by kernel_rfl,f196:=by kernel_rfl,f197:=by kernel_rfl,f257:=by kernel_rfl},f22:=by kernel_rfl,f89:=by kernel_rfl,f90:=by kernel_rfl,f91:=by kernel_rfl},cp:={p:=iQ.bt,f62:=by kernel_rfl,f90:=by kernel_rfl,f106:=by kernel_rfl,f155:=by kernel_rfl,f156:=by kernel_rfl,f231:=by kernel_rfl},f141:=by kernel_rfl},lk:={nd:={pl:={fi:={ft:={mp:={cp:={p:=iQ.bt,f123:=by kernel_rfl,f213:=by kernel_rfl,f214:=by kernel_rfl,f264:=by kernel_rfl,f265:=by kernel_rfl,f266:=by kernel_rfl},tu:={p:=iQ.bt,f263:=by kernel_rfl,f317:=by kernel_rfl,f318:=by kernel_rfl,f319:=by kernel_rfl,f320:=by kernel_rfl,f321:=by kernel_rfl,f322:=by kernel_rfl},f126:=by kernel_rfl,f127:=by kernel_rfl,f211:=by kernel_rfl,f215:=by kernel_rfl,f261:=by kernel_rfl,f262:=by kernel_rfl},bd:={cp:={p:=iQ.bt,f123:=by kernel_rfl,f213:=by kernel_rfl,f214:=by kernel_rfl,f264:=by kernel_rfl,f265:=by kernel_rfl,f266:=by kernel_rfl},f210:=by kernel_rfl},li:={p:=iQ.bt,f212:=by kernel_rfl},co:={p:=iQ.bt,f188:=by kernel_rfl,f254:=by kernel_rfl},f35:=by kernel_rfl,f121:=by kernel_rfl,f209:=by kernel_rfl},f34:=by kernel_rfl,f120:=by kernel_rfl},f72:=by kernel_rfl,f167:=by kernel_rfl,f189:=by kernel_rfl,f192:=by kernel_rfl},f35:=by kernel_rfl,f92:=by kernel_rfl,f121:=by kernel_rfl,f124:=by kernel_rfl,f193:=by kernel_rfl,f194:=by kernel_rfl,f195:=by kernel_rfl,f196:=by kernel_rfl,f197:=by kernel_rfl,f257:=by kernel_rfl},f201:=by kernel_rfl},f96:=by kernel_rfl},f39:=by kernel_rfl},fe:={p:=iQ.bt,cr:={hr:={p:=iQ.bt,f171:=by kernel_rfl,f225:=by kernel_rfl},f170:=by kernel_rfl},f25:=by kernel_rfl,f84:=by kernel_rfl},f7:=by kernel_rfl,f21:=by kernel_rfl}
theorem DC(p:Pb):cB (pbV p)=true:=by
 have q:cS (pbL p).toArray.toList=true:=by
  rw[List.toList_toArray]
  unfold pbL
  have:∀l:List Nat,cS (us l++[.int .i64 p.cost])=true:=fun l=>by
   induction l with
   |nil=>rfl
   |cons a l ih=>exact ih
  exact this _
 exact q
open Go.RowKit Go.ChangeShapes Go.WideShapes Go.Deep in
section
variable {H:Type} {enc:TypeId×Value→H} {W:World} {base:Nat} {spare:Nat→Bool} {held:Bool}
theorem Be{v:Value}{d:DataW H}{p:List MemPlace}(hv:Value.okWide Tryz.prog W .any base 67 v)(h:DataW.Trod enc Tryz.prog W 0 spare held 67 v d p):∃x:Pb,IsS x.cells∧v=pbV x:=by
 obtain⟨cs,rfl,_⟩:=okWide_struct Tryz.underlying67 hv
 obtain⟨fuel,hf⟩:=h
 have hf:DataW.trod enc Tryz.prog W 0 spare held fuel 67 cs.toList=some (d,p):=by simpa[Value.cells]using hf
 obtain⟨x,hx,e⟩:=su hf
 refine⟨x,hx,?_⟩
 have hcs:cs=cs.toList.toArray:=by simp
 rw[hcs,e];rfl
end
open Go.RowKit in
theorem AU{W:World}(V:vk W){w:List Nat×List Nat}(hw:IsW w){sl1 sl2:Value}{l:List Pb}(h1:Lt W sl1 l){os:List (List Nat)}(h2:NS W sl2 os){x:Pb}(hx:IsS x.cells){s:List Nat}(hs:IsS s):Calls Tryz.prog 7 #[wV w,sl1,sl2,pbV x,sv s] W fun e W'=>e= .returned (.bool true)∧Below W.heap.size W W':=by
 obtain⟨h,μ,hRR,hro,hrd,hnx,hgl,⟨a1,n1,hu1,hs1,hc1⟩,⟨a2,n2,hu2,hs2,hc2⟩,_⟩:=Mp V.gl h1.1 h2.1 h2.1
 have hol:∀{sz n:Nat} {a:Option Addr} {c:Nat} {cs:List Value},bK h sz (.slice a n c) n cs→c≤UNK-1→n<4611686018427387904:=fun hs hc=>by
  rcases bK.inv hs with⟨_,_,h0,_⟩|⟨b,o,cap,hv,_,hc⟩
  ·rw[h0];decide
  ·cases hv;unfold UNK at*;omega
 obtain⟨r',h',⟨m,hm⟩,rfl,rfl⟩:=Rr Rh hrd (hgl 2 _ List.mem_cons_self) (by omega) hw ⟨hs1,h1.2⟩ (hol hs1 (by unfold UNK at*;omega)) ⟨hs2,h2.2⟩ (hol hs2 (by unfold UNK at*;omega)) hx hs
 have hrun:=hm m (Nat.le_refl _)
 have ha:LR μ [wV w, .slice a1 l.length n1, .slice a2 os.length n2,pbV x,sv s] [wV w,sl1,sl2,pbV x,sv s]:= .cons (VR.cB (GH w)).1 (.cons hu1 (.cons hu2 (.cons (VR.cB (DC x)).1 (.cons (VR.cB (iI s)).1 .nil))))
 refine(kN iQ hrun hrd.log (by kernel_rfl) hRR ha).mono fun e W' hq=> ?_
 obtain⟨μ',q1,q2,q3⟩:=hq
 cases e with
 |returned v'=>
  have hv:VR μ' (.bool true) v':=q1
  cases hv
  exact⟨rfl,St.below q3 hro⟩
 |panicked _=>exact q1.elim
 |outgrown=>exact q1.elim
end Go.A.Pk
end
