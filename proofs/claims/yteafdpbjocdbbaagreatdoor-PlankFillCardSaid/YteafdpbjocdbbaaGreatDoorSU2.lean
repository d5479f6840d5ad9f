/- Walks of functions, plain laws, the table. -/
import Derived.Test.YteafdpbjocdbbaaGreatDoorSU1
import Derived.Test.YteafdpbjocdbbaaGreatDoorSF
import Derived.Test.YteafdpbjocdbbaaGreatDoorSD
set_option linter.all false
section
set_option maxRecDepth 100000
namespace Go.A.Pk
variable {T:Nat→Option AFunc}
theorem sv_mapP(m:Option Nat):sameV (.map m) (.map m)=true:=by simp[sameV,same1]
theorem WD.genP{base:Nat}{ops:List AOper}{bf:List Nat}{Q:Env→Heap→Prop}{is:List Nat}{rs:List Rec}{e:Env}{h:Heap}(hK:∀hA,hA=h→WD T base ops bf Q is rs e hA):WD T base ops bf Q is rs e h:=hK h rfl
set_option maxHeartbeats 16000000 in
theorem plan_cut(F:FnsPl T){H:Heap}(hr:Rdy H){lo N l p3 p4 p5 p6 bb mb a b n c wc:Nat}{sa wa:Option Addr}{kerf:Int}{kl:List Kd}{ws:List Int}{t:Tab}{fv o6:Value}{x:Nat×Nat}(hxm:x∈cutsL a b)(ha:1≤a∧a≤16)(hb:1≤b∧b≤16)(hk:0≤kerf∧kerf≤100)
 (hT:∀q, -1000000000000≤look t q∧look t q≤1000000000000)(B:BenchT H bb mb sa n c kerf wa wc kl ws t)
 (gl:H.get l=some (.loop [(3, .pointer (some ⟨p3,0,none⟩)),(4, .pointer (some ⟨p4,0,none⟩)),(5, .pointer (some ⟨p5,0,none⟩)),(6, .pointer (some ⟨p6,0,none⟩)),(37,fv)] [38] asgP1 bodyP1 0 .normal))
 (g3:H.get p3=some (.cells [.pointer (some ⟨bb,0,none⟩)] true 1))(g4:H.get p4=some (.cells [.map (some mb)] true 1))(g5:H.get p5=some (.cells [.int .i64 a, .int .i64 b] true 1))(g6:H.get p6=some (.cells [o6] true 1))(hp6:lo≤p6∧p6<N)(hlo:lo≤l∧l<N)
 (IH:∀(p:Int×Int) (h:Heap),sz p<a+b→p.1≤16→p.2≤16→Rdy h→BenchT h bb mb sa n c kerf wa wc kl ws t→Al T 84 [.pointer (some ⟨bb,0,none⟩), .map (some mb),pairV p] h (PlanQ kerf ws kl t p)):
 FW T (.yield l) [nodeV x] H fun r H'=>(∀z∈H'.log,lo≤z∧z<N)∧(r= .ret (.bool true)∧((∀z,z<H.next→H'.get z=H.get z)∧H.next≤H'.next∧look t (oneB x a b)+look t (twoB kerf x a b)≠look t ((a:Int),(b:Int)))∨
  r= .ret (.bool false)∧l∈H'.log∧PX H l p6 (.loop [(3, .pointer (some ⟨p3,0,none⟩)),(4, .pointer (some ⟨p4,0,none⟩)),(5, .pointer (some ⟨p5,0,none⟩)),(6, .pointer (some ⟨p6,0,none⟩)),(37,fv)] [38] asgP1 bodyP1 2 .ret)
   (fun ns=>∃n1 n2,look t (oneB x a b)+look t (twoB kerf x a b)=look t ((a:Int),(b:Int))∧PlanR kerf ws kl t (oneB x a b) n1∧PlanR kerf ws kl t (twoB kerf x a b) n2∧ns=x::(n1++n2)) H'):=by
 have gb:=B.gb
 have gm:=B.gm
 have n3:=ne_loop g3 gl
 have n4:=ne_loop g4 gl
 have n5:=ne_loop g5 gl
 have n6:=ne_loop g6 gl
 have nb:=ne_loop gb gl
 have nm:=ne_map gm gl
 have k3:=WF.get_lt hr.wf g3
 have k4:=WF.get_lt hr.wf g4
 have k5:=WF.get_lt hr.wf g5
 have k6:=WF.get_lt hr.wf g6
 have kb:=WF.get_lt hr.wf gb
 have km:=WF.get_lt hr.wf gm
 have kl':=WF.get_lt hr.wf gl
 have hx34:(x.1=3∨x.1=4)∧x.2<1000:=by
  rcases cuts_of hxm with⟨e,_,_⟩|⟨e,_,_⟩
  ·exact⟨.inl e,by omega⟩
  ·exact⟨.inr e,by omega⟩
 have hsz:=cut_lt hk.1 hxm
 have har:=cut_area hk.1 ha.1 hb.1 hxm
 have hab:a*b≤256:=Nat.le_trans (Nat.mul_le_mul ha.2 hb.2) (by omega)
 have hone:1≤(oneB x a b).1∧1≤(oneB x a b).2∧(oneB x a b).1≤16∧(oneB x a b).2≤16∧(twoB kerf x a b).1≤16∧(twoB kerf x a b).2≤16:=by
  rcases cuts_of hxm with⟨e3,_,_⟩|⟨e4,_,_⟩
  ·simp only[oneB,twoB,e3,if_true];omega
  ·have q3:¬x.1=3:=by omega
   simp only[oneB,twoB,if_neg q3];omega
 refine FW.yieldX F.toFnsV.p (R:=fun H'=>(∀z,z<H.next→H'.get z=H.get z)∧H.next≤H'.next∧look t (oneB x a b)+look t (twoB kerf x a b)≠look t ((a:Int),(b:Int))) gl rfl kl' hlo ?_
 obtain⟨x1,x2⟩:=x
 have C106:=fun {h:Heap} (hr:Rdy h) (hb':h.get bb=some (.cells [.slice sa n c, .int .i64 kerf, .slice wa n wc] true 1)) (hlt:bb<h.next)=>split106 F.toFnsV.p F.f106 hr hb' hlt hk hx34.1 hx34.2 (a:=a) (b:=b) (by omega) (by omega)
 unfold asgP1 nodeV
 unfold nodeV boardV at C106
 refine wE_region ?_;refine wO_val a_new ?_;refine yS ?_;refine wO_nil ?_
 refine y1 ?_
 refine⟨rfl,by(simp(disch:=first|omega|(simp only[z1,z2];omega))only[z3,z4,z5,z6,z7,z1,z2, *];exact rfl),?_⟩
 unfold bodyP1
 generalize oneB (x1,x2) a b=q1 at*
 generalize twoB kerf (x1,x2) a b=q2 at*
 have hw1:=hT q1
 have hw2:=hT q2
 refine wE_block ?_;refine y4 ?_;refine yL ?_
 refine yN ?_
 refine yN ?_
 refine WO.gen ?_
 intro hA hAe
 have A1:∀z,z<H.next→z≠l→hA.get z=H.get z:=fun z hz hne=>by rw[hAe];simp(disch:=first|omega|(simp only[z1,z2];omega))only[z5,z4]
 have A2:hA.get l=some (.loop [(3, .pointer (some ⟨p3,0,none⟩)),(4, .pointer (some ⟨p4,0,none⟩)),(5, .pointer (some ⟨p5,0,none⟩)),(6, .pointer (some ⟨p6,0,none⟩)),(37,fv)] [38] asgP1 bodyP1 1 .normal):=by rw[hAe];(simp(disch:=first|omega|(simp only[z1,z2];omega))only[z3,z4,z5,z6,z7,z1,z2, *];exact rfl)
 have A3:hA.get H.next=some (.cells [.int .u8 x1, .int .i64 x2] true 1):=by rw[hAe];(simp(disch:=first|omega|(simp only[z1,z2];omega))only[z3,z4,z5,z6,z7,z1,z2, *];exact rfl)
 have A5:hA.next=H.next+1:=by rw[hAe];rfl
 have A6:hA.log=[]:=by rw[hAe];simp(disch:=first|omega|(simp only[z1,z2];omega))only[Heap.log_wr_new,Heap.log_push];exact hr.log
 have A7:WF hA:=by rw[hAe];exact((hr.wf.push _).as (AS.wr _ _ _ _)).as (AS.wr _ _ _ _)
 clear hAe
 refine yC ?_
 refine FW.pu (C106 (.of A7) ((A1 bb kb nb).trans gb) (by show bb<hA.next;omega)) ?_
 clear C106
 have D3:=(A1 p3 k3 n3).trans g3
 have D4:=(A1 p4 k4 n4).trans g4
 have D5:=(A1 p5 k5 n5).trans g5
 have D6:=(A1 p6 k6 n6).trans g6
 have Dm:=(A1 mb km nm).trans gm
 have BA:BenchT hA bb mb sa n c kerf wa wc kl ws t:=B.keep hr.wf (by omega) fun z hz hc=>A1 z hz (fun e=>by subst e;rcases hc with⟨_,_,_,h⟩|⟨_,h⟩<;>(rw[gl]at h;cases h))
 unfold pairV
 obtain⟨q11,q12⟩:=q1
 obtain⟨q21,q22⟩:=q2
 dsimp only at hone
 refine yM ?_;refine yE ?_;refine yE ?_;refine wO_val a_new ?_;refine wO_val a_new ?_
 refine yS ?_
 refine yS ?_;refine y3 ?_;refine wE_seq ?_;refine wE_draw ?_
 refine qL ?_
 refine qN ?_
 refine wD_quiet rfl rfl rfl (by exact rfl) (by exact rfl) (by exact rfl) (a_lookup (x:=(q11,q12)) (by exact rfl) (by exact rfl) (by(simp(disch:=first|omega|(simp only[z1,z2];omega))only[z3,z4,z5,z6,z7,z1,z2, *];exact rfl))) ?_
 refine qL ?_
 refine qN ?_
 refine wD_quiet rfl rfl rfl (by exact rfl) (by exact rfl) (by exact rfl) (a_lookup (x:=(q21,q22)) (by exact rfl) (by exact rfl) (by(simp(disch:=first|omega|(simp only[z1,z2];omega))only[z3,z4,z5,z6,z7,z1,z2, *];exact rfl))) ?_
 refine wD_quiet rfl rfl rfl (by exact rfl) (by exact rfl) (by exact rfl) (a_num (by exact rfl) (by exact rfl) (by exact m_add (wrapA_i64 (by omega) (by omega)))) ?_
 refine qL ?_
 refine qN ?_
 refine wD_quiet rfl rfl rfl (by exact rfl) (by exact rfl) (by exact rfl) (a_lookup (x:=((a:Int),(b:Int))) (by exact rfl) (by exact rfl) (by(simp(disch:=first|omega|(simp only[z1,z2];omega))only[z3,z4,z5,z6,z7,z1,z2, *];exact rfl))) ?_
 have hD:∀n1 n2,PlanR kerf ws kl t (q11,q12) n1→PlanR kerf ws kl t (q21,q22) n2→0<n1.length∧n1.length+n2.length<100000:=fun n1 n2 r1 r2=>by
  have z1:=plan_len hk.1 r1
  have z2:=plan_len hk.1 r2
  have z3:=plan_pos r1 ⟨hone.1,hone.2.1⟩
  exact⟨z3,by omega⟩
 generalize hl1:look t (q11,q12)=w1 at*
 generalize hl2:look t (q21,q22)=w2 at*
 generalize hl0:look t ((a:Int),(b:Int))=w0 at*
 clear hl1 hl2 hl0
 by_cases hw:w1+w2=w0
 ·have hw':PLift (w1+w2=w0):=⟨hw⟩
  refine wD_quiet rfl rfl rfl (by exact rfl) (by exact rfl) (by exact rfl) (a_num (by exact rfl) (by exact rfl) (by exact m_eqlT (by omega))) ?_;refine wD_nil ?_;refine y1 ?_;refine kS_n ?_;refine yY ?_;refine wE_seq ?_;refine wE_draw ?_
  refine qN ?_
  refine qL ?_
  refine qL ?_
  refine qN ?_
  refine qL ?_
  refine qL ?_
  refine qN ?_
  refine WD.genP ?_
  intro hB hBe
  have hxB:Ext hA hB:=by rw[hBe];exact((((Ext.refl hA).push _).push _).wr (by omega) (by omega)).wr (by(simp only[z1,z2];omega)) (by(simp only[z1,z2];omega))
  have E9:hB.get hA.next=some (.cells [.int .i64 q11, .int .i64 q12] true 1):=by rw[hBe];(simp(disch:=first|omega|(simp only[z1,z2];omega)|(simp only[z1,z2];done)|fail)only[z8,z4,z5,z9,z7,z1,z2, *];exact rfl)
  have E10:hB.get (hA.next+1)=some (.cells [.int .i64 q21, .int .i64 q22] true 1):=by rw[hBe];(simp(disch:=first|omega|(simp only[z1,z2];omega)|(simp only[z1,z2];done)|fail)only[z8,z4,z5,z9,z7,z1,z2, *];exact rfl)
  have E5:hB.next=hA.next+2:=by rw[hBe];rfl
  clear hBe hw
  have wB:=hxB.wf A7
  have E3:=(hxB.old _ (by omega)).trans D3
  have E4:=(hxB.old _ (by omega)).trans D4
  have E6:=(hxB.old _ (by omega)).trans D6
  have E8:=(hxB.old _ (by omega)).trans A3
  have E2:=(hxB.old _ (by omega)).trans A2
  have BB:=BA.ext A7 hxB
  have hoB:∀z,z<H.next→z≠l→hB.get z=H.get z:=fun z hz hne=>(hxB.old z (by omega)).trans (A1 z hz hne)
  have hlB:hB.log=[]:=hxB.log.trans A6
  clear D3 D4 D5 D6 Dm A1 A2 A3 A6 gb gm g3 g4 g5 g6 BA hxB
  refine qC ?_
  refine FW.alD (IH (q11,q12) _ hsz.1 hone.2.2.1 hone.2.2.2.1 (.of wB) (BB.keep wB (Nat.le_refl _) fun _ _ _=>rfl)) (fun v h' m q=>PlanQ.log v h' m q) ?_
  rintro _ h2 hx2 ⟨ns1,a1,c1,R1,rfl,s1,_⟩
  have w2':=hx2.wf wB
  have G3:=(hx2.old _ (by omega)).trans E3
  have G4:=(hx2.old _ (by omega)).trans E4
  have G6:=(hx2.old _ (by omega)).trans E6
  have G8:=(hx2.old _ (by omega)).trans E8
  have G10:=(hx2.old _ (by omega)).trans E10
  have hn2:=hx2.next
  refine⟨_,by apply ra_keepC rfl (rq_quiet rfl (a_loadN (by exact rfl) (by assumption) (by exact rfl) (by exact rfl)) (by exact sv_agg (by refine sl_cons (s1_int _ _) ?_;refine sl_cons (s1_int _ _) ?_;exact sl_nil))) rfl;apply ra_keepC rfl (rq_quiet rfl (a_load (by exact rfl) (by assumption) (by exact rfl)) (by exact sv_mapP _)) rfl;apply ra_keepC rfl (rq_quiet rfl (a_load (by exact rfl) (by assumption) (by exact rfl)) (by exact sv_ptr _)) rfl;apply ra_dropC rfl;apply ra_dropC rfl;apply ra_dropC rfl;apply ra_keepC rfl (rq_quiet rfl (a_loadN (by exact rfl) (by assumption) (by exact rfl) (by exact rfl)) (by exact sv_agg (by refine sl_cons (s1_int _ _) ?_;refine sl_cons (s1_int _ _) ?_;exact sl_nil))) rfl;exact ra_nil,?_⟩
  skip
  refine qC ?_
  refine FW.alD (IH (q21,q22) _ hsz.2 hone.2.2.2.2.1 hone.2.2.2.2.2 (.of w2') ((BB.ext wB hx2).keep w2' (Nat.le_refl _) fun _ _ _=>rfl)) (fun v h' m q=>PlanQ.log v h' m q) ?_
  rintro _ h3 hx3 ⟨ns2,a2,c2,R2,rfl,s2,_⟩
  have w3:=hx3.wf w2'
  have J8:=(hx3.old _ (by omega)).trans G8
  have J6:=(hx3.old _ (by omega)).trans G6
  have hn3:=hx3.next
  have hpos:=hD _ _ R1 R2
  clear E3 E4 E6 E8 E9 E10 G3 G4 G6 G8 G10 IH hT
  refine⟨_,by apply ra_dropC rfl;apply ra_dropC rfl;apply ra_dropC rfl;apply ra_keepC rfl (rq_quiet rfl (a_loadN (by exact rfl) (by assumption) (by exact rfl) (by exact rfl)) (by exact sv_agg (by refine sl_cons (s1_int _ _) ?_;refine sl_cons (s1_int _ _) ?_;exact sl_nil))) rfl;exact ra_nil,?_⟩
  refine wD_new rfl rfl rfl (by exact rfl) (by exact rfl) (by exact rfl) (a_bslice (by exact rfl) (by exact rfl)) (by refine rs_cons (rq_quiet rfl (a_loadN (by exact rfl) (by(simp(disch:=first|omega|(simp only[z1,z2];omega))only[z3,z4,z5,z6,z7,z1,z2, *];exact rfl)) (by exact rfl) (by exact rfl)) (by exact sv_agg (by refine sl_cons (s1_int _ _) ?_;refine sl_cons (s1_int _ _) ?_;exact sl_nil))) ?_;exact rs_nil) ?_
  refine qC ?_
  have hx4:Ext h3 (h3.push (.cells [.slice a1 ns1.length c1, .slice a2 ns2.length c2] true 1)):=(Ext.refl h3).push _
  refine FW.alD (joined2 F.toFnsJ (.of (hx4.wf w3)) (x1,x2) (z3 _ _) (((s1.ext hx3).ext hx4).log []) ((s2.ext hx4).log []) (ones_ncs _) (ones_ncs _) hpos.1 hpos.2) (fun _ _ _ q=>q) ?_
  rintro _ h4 hx5 ⟨q,rfl,hq1,hq2,gq⟩
  have hn4:=(hx4.trans hx5).next
  have hq1':h3.next+1≤q:=hq1
  have K6:=((hx4.trans hx5).old _ (by omega)).trans J6
  have hoD:∀z,z<hB.next→h4.get z=hB.get z:=fun z hz=>((hx4.trans hx5).old z (by omega)).trans ((hx3.old z (by omega)).trans (hx2.old z hz))
  have hl4:h4.log=[]:=(hx4.trans hx5).log.trans (hx3.log.trans (hx2.log.trans hlB))
  refine⟨_,by apply ra_dropC rfl;apply ra_dropC rfl;exact ra_nil,?_⟩
  skip
  refine wD_storeA (ws:=[.slice (some ⟨q,0,none⟩) (1+(ns1.length+ns2.length)) UNK]) rfl rfl rfl (by exact rfl) (by exact rfl) (by exact rfl) K6 (by exact rfl) (by exact rfl) (by omega) (by exact ra_nil) ?_
  refine wD_nil ?_;refine y1 ?_;refine kS_n ?_;refine wE_ret ?_;refine kB_r ?_
  refine⟨⟨_,(z5 (Ne.symm n6)).trans ((hoD l (by omega)).trans E2),rfl⟩,fun z hz=> ?_, .inr ⟨rfl,fun h5 hn hag hl5=>⟨fun z hz hne hne6=>(hag z hne).trans ((z5 hne6).trans ((hoD z (by omega)).trans (hoB z hz hne))),by rw[hn];show H.next≤h4.next;omega,hl5,?_⟩⟩⟩
  ·rcases wr_log_old hz with rfl|hz
   ·exact hp6
   ·rw[hl4]at hz;cases hz
  ·have el:1+(ns1.length+ns2.length)=((x1,x2)::(ns1++ns2)).length:=by simp;omega
   have ec:nd (x1,x2)++(ncs ns1++ncs ns2)=ncs ((x1,x2)::(ns1++ns2)):=by rw[ncs,ncs_app]
   rw[el]at hag
   rw[ec]at gq
   refine⟨(x1,x2)::(ns1++ns2),q,UNK,⟨ns1,ns2,hw'.down,R1,R2,rfl⟩,by omega,by rw[hn];exact hq2,⟨by rw[←el];unfold UNK;omega, .inl rfl⟩,?_,?_⟩
   ·exact(hag p6 n6).trans (Heap.get_wr_new K6)
   ·exact(hag q (by omega)).trans ((z5 (by omega)).trans gq)
 ·refine wD_quiet rfl rfl rfl (by exact rfl) (by exact rfl) (by exact rfl) (a_num (by exact rfl) (by exact rfl) (by exact m_eqlF (by omega))) ?_;refine wD_nil ?_;refine y1 ?_;refine kS_n ?_;refine yX ?_;refine wE_skip ?_;refine kB_n ?_
  refine⟨⟨_,by(simp(disch:=first|omega|(simp only[z1,z2];omega))only[z3,z4,z5,z6,z7,z1,z2, *];exact rfl),rfl⟩,fun z hz=> ?_, .inl ⟨rfl,fun h5 hn hag hl5=>⟨fun z hz=> ?_,hn,hw⟩⟩⟩
  ·simp(disch:=first|omega|(simp only[z1,z2];omega))only[Heap.log_wr_new,Heap.log_push]at hz
   rw[A6]at hz;cases hz
  ·by_cases hz2:z=l
   ·rw[hz2];exact hl5.trans gl.symm
   ·refine(hag z hz hz2).trans (Eq.trans ?_ (A1 z hz hz2))
    simp(disch:=first|omega|(simp only[z1,z2];omega))only[z5,z4]
end Go.A.Pk
end
section
set_option maxRecDepth 100000
namespace Go.A.Pk
variable {T:Nat→Option AFunc}
def NoughtP(x:Int×Int):Prop:=x.1<1∨x.2<1
instance(x:Int×Int):Decidable (NoughtP x):=by unfold NoughtP;infer_instance
theorem nothing125p(hp:primAS T)(hf:T 125=some f125){h:Heap}(hr:Rdy h)(x:Int×Int):Pu T 125 [pairV x] h (.bool (decide (NoughtP x))):=by
 refine .of hp hf hr rfl ?_
 by_cases c1:x.1<1
 ·rw[decide_eq_true (show NoughtP x from .inl c1)]
  unfold pairV
  refine y4 ?_;refine yB ?_;refine yM ?_;refine y3 ?_;refine y4 ?_;refine wO_val (a_iaddrA (i:=0) (by exact rfl) (by exact rfl) (by omega)) ?_
  refine yL ?_;refine yt ?_
  refine yM ?_;refine yP ?_;refine yP ?_;refine yP ?_;refine yT ?_;refine yM ?_;refine y3 ?_;refine wE_ret ?_
  exact endP_ret hr.log rfl rfl
 ·by_cases c2:x.2<1
  ·rw[decide_eq_true (show NoughtP x from .inr c2)]
   unfold pairV
   refine y4 ?_;refine yB ?_;refine yM ?_;refine y3 ?_;refine y4 ?_;refine wO_val (a_iaddrA (i:=0) (by exact rfl) (by exact rfl) (by omega)) ?_
   refine yL ?_;refine yf ?_
   refine yM ?_;refine yO ?_;refine wO_val (a_iaddrA (i:=1) (by exact rfl) (by exact rfl) (by omega)) ?_;refine yO ?_
   refine yL ?_;refine yO ?_;refine yt ?_
   refine yU ?_;refine yM ?_;refine y3 ?_;refine wE_ret ?_
   exact endP_ret hr.log rfl rfl
  ·rw[decide_eq_false (show¬NoughtP x from fun q=>q.elim c1 c2)]
   unfold pairV
   refine y4 ?_;refine yB ?_;refine yM ?_;refine y3 ?_;refine y4 ?_;refine wO_val (a_iaddrA (i:=0) (by exact rfl) (by exact rfl) (by omega)) ?_
   refine yL ?_;refine yf ?_
   refine yM ?_;refine yO ?_;refine wO_val (a_iaddrA (i:=1) (by exact rfl) (by exact rfl) (by omega)) ?_;refine yO ?_
   refine yL ?_;refine yO ?_;refine yf ?_
   refine yU ?_;refine yM ?_;refine y3 ?_;refine wE_ret ?_
   exact endP_ret hr.log rfl rfl
theorem PlanQ.gc{kerf:Int}{ws:List Int}{kl:List Kd}{t:Tab}{p:Int×Int}{h:Heap}(v:Value)(h1:Heap)(hv:noRef v=true)(q:PlanQ kerf ws kl t p v h1):PlanQ kerf ws kl t p v h:=by
 obtain⟨ns,a,c,R,rfl,s,u⟩:=q
 have hu:U2 h (.slice a ns.length c):=fun b o n e=>by cases e;simp[noRef,flatL,flat,scalL,scal,scal1]at hv
 refine⟨ns,a,c,R,rfl,?_,hu,u.2⟩
 clear u
 generalize ns.length=n at*
 generalize ncs ns=cs at*
 cases s with
 |nil=>exact .nil
 |mem s _=>simp[noRef,flatL,flat,scalL,scal,scal1]at hv
theorem PX.log{H:Heap}{l p6:Nat}{L2:AObj}{D:List (Nat×Nat)→Prop}{H':Heap}(m:List Nat)(p:PX H l p6 L2 D H'):PX H l p6 L2 D {H' with log:=m}:=⟨p.old,p.nx,p.loop,p.out⟩
theorem PX.up{H H0:Heap}{l p6:Nat}{L2:AObj}{D D':List (Nat×Nat)→Prop}{H':Heap}(p:PX H l p6 L2 D H')(hn:H0.next≤H.next)(ho:∀z,z<H0.next→z≠l→z≠p6→H.get z=H0.get z)(hD:∀ns,D ns→D' ns):PX H0 l p6 L2 D' H':=by
 obtain⟨ns,q,c,d,h1,h2,h3,h4,h5⟩:=p.out
 exact⟨fun z hz h6 h7=>(p.old z (by omega) h6 h7).trans (ho z hz h6 h7),Nat.le_trans hn p.nx,p.loop,ns,q,c,hD ns d,by omega,h2,h3,h4,h5⟩
def tailPl:ACode:=cR (cR (cR (cR (codeOf f84))))
theorem plan_tail(F:FnsPl T){base p3 p4 p5 p6 a b:Nat}{H:Heap}{kerf:Int}{ws:List Int}{kl:List Kd}{t:Tab}{rest:Env}{o6:Value}(hw:WF H)(hlog:H.log=[])(hb6:base≤p6)(hbase:base≤H.next)(g6:H.get p6=some (.cells [o6] true 1))(hR:PlanR kerf ws kl t ((a:Int),(b:Int)) [(0,0)]):
 WE T base none tailPl (endA [(6,some none)] (PlanQ kerf ws kl t ((a:Int),(b:Int)))) ((3, .pointer (some ⟨p3,0,none⟩))::(4, .pointer (some ⟨p4,0,none⟩))::(5, .pointer (some ⟨p5,0,none⟩))::(6, .pointer (some ⟨p6,0,none⟩))::rest) [] H:=by
 have k6:=WF.get_lt hw g6
 unfold tailPl
 simp only[cR,codeOf,f84]
 refine y4 ?_;refine wO_val (a_build (by exact rfl)) ?_
 refine yC ?_
 refine FW.al (joined0 F.toFnsJ (.of hw) (0,0)) (fun _ _ _ q=>q) ?_
 rintro _ h2 hx2 ⟨q,rfl,hq1,hq2,gq⟩
 have B6:=(hx2.old p6 k6).trans g6
 have hq1':H.next≤q:=hq1
 refine yS ?_;refine y3 ?_;refine wE_ret ?_
 refine endA_ret (vs:=[.slice (some ⟨q,0,none⟩) 1 1]) ((Heap.log_wr_new hb6).trans (hx2.log.trans hlog)) (res_cell (b:=p6) rfl (Heap.get_wr_new B6) rfl res_nil) ⟨[(0,0)],_,_,hR,rfl, .mem ⟨hq2,⟨_,_,_,(z5 (by omega)).trans gq,rfl⟩,rfl⟩ (Nat.le_refl _),(fun b o n e=>by cases e), .inr (by omega)⟩
set_option maxHeartbeats 16000000 in
theorem plan84(F:FnsPl T){bb mb n c wc:Nat}{sa wa:Option Addr}{kerf:Int}{kl:List Kd}{ws:List Int}{t:Tab}(hk:0≤kerf∧kerf≤100)(hn:n<1000)(hT:∀q, -1000000000000≤look t q∧look t q≤1000000000000):
 ∀(m:Nat) (p:Int×Int) (h:Heap),sz p≤m→p.1≤16→p.2≤16→Rdy h→BenchT h bb mb sa n c kerf wa wc kl ws t→Al T 84 [.pointer (some ⟨bb,0,none⟩), .map (some mb),pairV p] h (PlanQ kerf ws kl t p):=by
 intro m
 induction m with
 |zero=>
  intro p h hs _ _ hr B
  have hno:NoughtP p:=by unfold sz at hs;unfold NoughtP;omega
  refine .of F.toFnsV.p F.f84 hr PlanQ.gc ?_
  have hx:Ext h ((((h.push (.cells [.pointer (some ⟨bb,0,none⟩)] true 1)).push (.cells [.map (some mb)] true 1)).push (.cells [.int .i64 p.1, .int .i64 p.2] true 1)).push (.cells [.slice none 0 0] true 1)):=((((Ext.refl h).push _).push _).push _).push _
  have C:=nothing125p F.toFnsV.p F.f125 (.of (hx.wf hr.wf)) p
  rw[decide_eq_true hno]at C
  unfold pairV at C⊢
  refine y4 ?_;refine yB ?_;refine yB ?_;refine yB ?_;refine wO_val a_new ?_;refine y3 ?_;refine wE_seq ?_;refine y4 ?_;refine yN ?_
  refine yC ?_
  refine FW.pu C ?_
  refine y3 ?_;refine yY ?_;refine y4 ?_
  refine yS ?_;refine y3 ?_;refine wE_ret ?_;refine kS_r ?_
  refine endA_ret (vs:=[.slice none 0 0]) ((Heap.log_wr_new (by(simp only[z1,z2];omega))).trans (hx.log.trans hr.log)) (res_cell (b:=h.next+3) rfl (by(simp(disch:=first|omega|(simp only[z1,z2];omega)|(simp only[z1,z2];done)|fail)only[z8,z4,z5,z9,z7,z1,z2, *];exact rfl)) rfl res_nil) ⟨[],none,0, .none (by unfold NoughtP at hno;omega),rfl, .nil,(fun _ _ _ e=>by cases e), .inr (by omega)⟩
 |succ m ih=>
  intro p h hs hp1 hp2 hr B
  refine .of F.toFnsV.p F.f84 hr PlanQ.gc ?_
  have hx:Ext h ((((h.push (.cells [.pointer (some ⟨bb,0,none⟩)] true 1)).push (.cells [.map (some mb)] true 1)).push (.cells [.int .i64 p.1, .int .i64 p.2] true 1)).push (.cells [.slice none 0 0] true 1)):=((((Ext.refl h).push _).push _).push _).push _
  have C:=nothing125p F.toFnsV.p F.f125 (.of (hx.wf hr.wf)) p
  by_cases hno:NoughtP p
  ·rw[decide_eq_true hno]at C
   unfold pairV at C⊢
   refine y4 ?_;refine yB ?_;refine yB ?_;refine yB ?_;refine wO_val a_new ?_;refine y3 ?_;refine wE_seq ?_;refine y4 ?_;refine yN ?_
   refine yC ?_
   refine FW.pu C ?_
   refine y3 ?_;refine yY ?_;refine y4 ?_
   refine yS ?_;refine y3 ?_;refine wE_ret ?_;refine kS_r ?_
   refine endA_ret (vs:=[.slice none 0 0]) ((Heap.log_wr_new (by(simp only[z1,z2];omega))).trans (hx.log.trans hr.log)) (res_cell (b:=h.next+3) rfl (by(simp(disch:=first|omega|(simp only[z1,z2];omega)|(simp only[z1,z2];done)|fail)only[z8,z4,z5,z9,z7,z1,z2, *];exact rfl)) rfl res_nil) ⟨[],none,0, .none (by unfold NoughtP at hno;omega),rfl, .nil,(fun _ _ _ e=>by cases e), .inr (by omega)⟩
  ·rw[decide_eq_false hno]at C
   obtain⟨pa,pb⟩:=p
   dsimp only at hp1 hp2
   have hno':1≤pa∧1≤pb:=by unfold NoughtP at hno;dsimp only at hno;omega
   obtain⟨a,rfl⟩:=Int.eq_ofNat_of_zero_le (show 0≤pa by omega)
   obtain⟨b,rfl⟩:=Int.eq_ofNat_of_zero_le (show 0≤pb by omega)
   have hsab:a+b≤m+1:=by simpa[sz]using hs
   have hlk:kl.length=n:=by have:=B.hks.len;rw[kcs_length]at this;omega
   unfold pairV at C⊢
   dsimp only at hx C⊢
   refine y4 ?_;refine yB ?_;refine yB ?_;refine yB ?_;refine wO_val a_new ?_;refine y3 ?_;refine wE_seq ?_;refine y4 ?_;refine yN ?_
   refine yC ?_
   refine FW.pu C ?_
   refine y3 ?_;refine yX ?_;refine wE_skip ?_;refine kS_n ?_;refine wE_seq ?_;refine y4 ?_
   refine yL ?_
   refine yN ?_
   refine yC ?_
   refine FW.al (leaves104 F.toFnsV.p F.toFnsV.f104 (.of (hx.wf hr.wf)) bb a b) (fun _ _ _ q=>q) ?_
   rintro _ h1 hx1 ⟨rfl,hn1,gp,gx⟩
   have en:({(((h.push (.cells [.pointer (some ⟨bb,0,none⟩)] true 1)).push (.cells [.map (some mb)] true 1)).push (.cells [.int .i64 (a:Int), .int .i64 (b:Int)] true 1)).push (.cells [.slice none 0 0] true 1)with log:=[]}:Heap).next=h.next+4:=rfl
   rw[en]at hn1 gp gx
   rw[en]
   have w1:=hx1.wf (hx.wf hr.wf)
   have hx01:=hx.trans hx1
   have g3:h1.get h.next=some (.cells [.pointer (some ⟨bb,0,none⟩)] true 1):=by rw[hx1.old _ (by(simp only[z1,z2];omega))];(simp(disch:=first|omega|(simp only[z1,z2];omega))only[z3,z4,z5,z6,z7,z1,z2, *];exact rfl)
   have g4:h1.get (h.next+1)=some (.cells [.map (some mb)] true 1):=by rw[hx1.old _ (by(simp only[z1,z2];omega))];(simp(disch:=first|omega|(simp only[z1,z2];omega)|(simp only[z1,z2];done)|fail)only[z8,z4,z5,z9,z7,z1,z2, *];exact rfl)
   have g5:h1.get (h.next+2)=some (.cells [.int .i64 a, .int .i64 b] true 1):=by rw[hx1.old _ (by(simp only[z1,z2];omega))];(simp(disch:=first|omega|(simp only[z1,z2];omega)|(simp only[z1,z2];done)|fail)only[z8,z4,z5,z9,z7,z1,z2, *];exact rfl)
   have g6:h1.get (h.next+3)=some (.cells [.slice none 0 0] true 1):=by rw[hx1.old _ (by(simp only[z1,z2];omega))];(simp(disch:=first|omega|(simp only[z1,z2];omega)|(simp only[z1,z2];done)|fail)only[z8,z4,z5,z9,z7,z1,z2, *];done)
   have B1:=B.ext hr.wf hx01
   have hlog1:h1.log=[]:=hx01.log.trans hr.log
   have hn1':h1.next=h.next+6:=hn1
   clear hx1 C hx
   refine y3 ?_;refine wE_block ?_
   refine wE_rangeX (lo:=h.next) (g:=140) (P:=fun H=>(∀z,z<h1.next→H.get z=h1.get z)∧H.get h1.next=some (.loop [(3, .pointer (some ⟨h.next,0,none⟩)),(4, .pointer (some ⟨h.next+1,0,none⟩)),(5, .pointer (some ⟨h.next+2,0,none⟩)),(6, .pointer (some ⟨h.next+3,0,none⟩)),(15,fn2 140 (h.next+4) (h.next+5))] [16] asgP0 bodyP0 0 .normal)∧h1.next<H.next∧∀x∈leavesL a b kl 0,ws.getD x.2 0≠look t ((a:Int),(b:Int)))
    (S:=PX (h1.push (.loop [(3, .pointer (some ⟨h.next,0,none⟩)),(4, .pointer (some ⟨h.next+1,0,none⟩)),(5, .pointer (some ⟨h.next+2,0,none⟩)),(6, .pointer (some ⟨h.next+3,0,none⟩)),(15,fn2 140 (h.next+4) (h.next+5))] [16] asgP0 bodyP0 0 .normal)) h1.next (h.next+3) (.loop [(3, .pointer (some ⟨h.next,0,none⟩)),(4, .pointer (some ⟨h.next+1,0,none⟩)),(5, .pointer (some ⟨h.next+2,0,none⟩)),(6, .pointer (some ⟨h.next+3,0,none⟩)),(15,fn2 140 (h.next+4) (h.next+5))] [16] asgP0 bodyP0 2 .ret) (PlanR kerf ws kl t ((a:Int),(b:Int))))
    (by rfl) (by rfl) (by rw[F.toFnsV.f140];rfl) (Nat.le_refl _) (by omega) hlog1 w1 ?_ (fun H q=>⟨_,_,_,_,q.2.1⟩) (fun H q=>⟨_,_,_,_,q.loop⟩) ?_ ?_
   ·refine leavesX140 F.toFnsV.p F.toFnsV.f140 (.of (w1.push _)) (pb:=h.next+4) (bb:=bb) (px:=h.next+5) (l':=h1.next) (N:=h1.next+1) (lo:=h.next) (a:=a) (b:=b) (n:=n) (c:=c) (sa:=sa) (l:=kl) (v1:= .int .i64 kerf) (v2:= .slice wa n wc)
     (P:=fun done H=>(∀z,z<h1.next→H.get z=h1.get z)∧H.get h1.next=some (.loop [(3, .pointer (some ⟨h.next,0,none⟩)),(4, .pointer (some ⟨h.next+1,0,none⟩)),(5, .pointer (some ⟨h.next+2,0,none⟩)),(6, .pointer (some ⟨h.next+3,0,none⟩)),(15,fn2 140 (h.next+4) (h.next+5))] [16] asgP0 bodyP0 0 .normal)∧h1.next<H.next∧∀x∈done,ws.getD x.2 0≠look t ((a:Int),(b:Int)))
     (Nat.le_refl _) (by show h.next≤h1.next+1;omega) hn (Nat.lt_succ_self _) ⟨fun done x H hxm hr' hN hP=> ?_,fun done H H' q hN' ha=>⟨fun z hz=>(ha z (by omega)).trans (q.1 z hz),(ha _ (Nat.lt_succ_self _)).trans q.2.1,by omega,q.2.2.2⟩,fun H m q=>q.log m,fun H q=>⟨_,_,_,_,q.loop⟩⟩
     ((z4 (by omega)).trans gp) ((z4 (WF.get_lt w1 B1.gb)).trans B1.gb) (fun d H q=>(B1.keep w1 (by omega) fun z hz _=>q.1 z hz).hks) (fun d H q=>(q.1 _ (by omega)).trans gx) ⟨fun z hz=>z4 hz,z3 _ _,Nat.lt_succ_self _,fun x hx=>by cases hx⟩
    obtain⟨q1,q2,q3,q4⟩:=hP
    refine FW.mono' (plan_leaf F hr' (lo:=h.next) (N:=h1.next+1) (x:=x) (by have:=leaves_idx x hxm;omega) (B1.keep w1 (by omega) fun z hz _=>q1 z hz) q2 ((q1 _ (by omega)).trans g3) ((q1 _ (by omega)).trans g4) ((q1 _ (by omega)).trans g5) ((q1 _ (by omega)).trans g6) (by omega) (by omega)) ?_
    rintro r H' ⟨zy1,zy2⟩
    refine⟨zy1,zy2.imp ?_ ?_⟩
    ·rintro⟨rfl,zy3,zy4,zy5⟩
     refine⟨rfl,fun z hz=>(zy3 z (by omega)).trans (q1 z hz),(zy3 _ q3).trans q2,by omega,fun y hy=> ?_⟩
     rcases List.mem_append.1 hy with hy|hy
     ·exact q4 y hy
     ·rw[List.mem_singleton.1 hy];exact zy5
    ·rintro⟨rfl,zy3,zy4⟩
     refine⟨rfl,zy3,zy4.up (by exact q3) (fun z hz hne _=> ?_) ?_⟩
     ·have hz':z<h1.next+1:=hz
      exact(q1 z (by omega)).trans (z4 (by omega)).symm
     ·rintro ns ⟨rfl,e⟩
      exact .leaf (by omega) (by omega) hxm e
   ·intro h2 h3 c1 c2 c3 c4 c5 ⟨q1,q2,q3,q4⟩
    have E:∀z,z<h1.next→h3.get z=h1.get z:=fun z hz=>(c5 z (by omega)).trans (q1 z hz)
    have e3:=(E _ (by omega)).trans g3
    have e4:=(E _ (by omega)).trans g4
    have e5:=(E _ (by omega)).trans g5
    have e6:=(E _ (by omega)).trans g6
    have B3:=B1.keep w1 (by omega) fun z hz _=>E z hz
    have gm3:=B3.gm
    clear g3 g4 g5 g6 gp gx q1 q2 q3 c4 c5 E
    by_cases hpos:0<look t ((a:Int),(b:Int))
    ·refine kB_n ?_;refine kS_n ?_;refine wE_seq ?_;refine y4 ?_;refine yL ?_;refine yN ?_
     refine wO_val (a_lookup (x:=((a:Int),(b:Int))) (by exact rfl) (by exact rfl) gm3) ?_
     refine yt ?_;refine y3 ?_;refine yY ?_;refine y4 ?_;refine yL ?_
     refine yN ?_
     refine yC ?_
     refine FW.al (cuts105 F.toFnsV.p F.toFnsV.f105 (.of c2) _ a b) (fun _ _ _ q=>q) ?_
     rintro _ h4 hx4 ⟨rfl,hn4,gx4⟩
     have w4:=hx4.wf c2
     have hn4':h4.next=h3.next+1:=hn4
     have hlog4:h4.log=[]:=hx4.log.trans c1
     have i3:=(hx4.old _ (by omega)).trans e3
     have i4:=(hx4.old _ (by omega)).trans e4
     have i5:=(hx4.old _ (by omega)).trans e5
     have i6:=(hx4.old _ (by omega)).trans e6
     have B4:=B3.ext c2 hx4
     clear e3 e4 e5 e6 gm3 hx4
     refine y3 ?_;refine wE_block ?_
     refine wE_rangeX (lo:=h.next) (g:=141) (P:=fun H=>(∀z,z<h4.next→H.get z=h4.get z)∧H.get h4.next=some (.loop [(3, .pointer (some ⟨h.next,0,none⟩)),(4, .pointer (some ⟨h.next+1,0,none⟩)),(5, .pointer (some ⟨h.next+2,0,none⟩)),(6, .pointer (some ⟨h.next+3,0,none⟩)),(37,fn1 141 h3.next)] [38] asgP1 bodyP1 0 .normal)∧h4.next<H.next∧∀x∈cutsL a b,look t (oneB x a b)+look t (twoB kerf x a b)≠look t ((a:Int),(b:Int)))
      (S:=PX (h4.push (.loop [(3, .pointer (some ⟨h.next,0,none⟩)),(4, .pointer (some ⟨h.next+1,0,none⟩)),(5, .pointer (some ⟨h.next+2,0,none⟩)),(6, .pointer (some ⟨h.next+3,0,none⟩)),(37,fn1 141 h3.next)] [38] asgP1 bodyP1 0 .normal)) h4.next (h.next+3) (.loop [(3, .pointer (some ⟨h.next,0,none⟩)),(4, .pointer (some ⟨h.next+1,0,none⟩)),(5, .pointer (some ⟨h.next+2,0,none⟩)),(6, .pointer (some ⟨h.next+3,0,none⟩)),(37,fn1 141 h3.next)] [38] asgP1 bodyP1 2 .ret) (PlanR kerf ws kl t ((a:Int),(b:Int))))
      (by rfl) (by rfl) (by rw[F.toFnsV.f141];rfl) (Nat.le_refl _) (by omega) hlog4 w4 ?_ (fun H q=>⟨_,_,_,_,q.2.1⟩) (fun H q=>⟨_,_,_,_,q.loop⟩) ?_ ?_
     ·refine cutsX141 F.toFnsV.p F.toFnsV.f141 (.of (w4.push _)) (bx:=h3.next) (l:=h4.next) (N:=h4.next+1) (lo:=h.next) (a:=a) (b:=b)
       (P:=fun done H=>(∀z,z<h4.next→H.get z=h4.get z)∧H.get h4.next=some (.loop [(3, .pointer (some ⟨h.next,0,none⟩)),(4, .pointer (some ⟨h.next+1,0,none⟩)),(5, .pointer (some ⟨h.next+2,0,none⟩)),(6, .pointer (some ⟨h.next+3,0,none⟩)),(37,fn1 141 h3.next)] [38] asgP1 bodyP1 0 .normal)∧h4.next<H.next∧∀x∈done,look t (oneB x a b)+look t (twoB kerf x a b)≠look t ((a:Int),(b:Int)))
       (Nat.le_refl _) (by show h.next≤h4.next+1;omega) (by omega) (by omega) (Nat.lt_succ_self _) ⟨fun done x H hxm hr' hN hP=> ?_,fun done H H' q hN' ha=>⟨fun z hz=>(ha z (by omega)).trans (q.1 z hz),(ha _ (Nat.lt_succ_self _)).trans q.2.1,by omega,q.2.2.2⟩,fun H m q=>q.log m,fun H q=>⟨_,_,_,_,q.loop⟩⟩
       (fun d H q=>(q.1 _ (by omega)).trans gx4) ⟨fun z hz=>z4 hz,z3 _ _,Nat.lt_succ_self _,fun x hx=>by cases hx⟩
      obtain⟨q1,q2,q3,q4⟩:=hP
      refine FW.mono' (plan_cut F hr' (lo:=h.next) (N:=h4.next+1) (x:=x) hxm (by omega) (by omega) hk hT (B4.keep w4 (by omega) fun z hz _=>q1 z hz) q2 ((q1 _ (by omega)).trans i3) ((q1 _ (by omega)).trans i4) ((q1 _ (by omega)).trans i5) ((q1 _ (by omega)).trans i6) (by omega) (by omega) fun p' h' hs' y1 y2 hr2 B2=>ih p' h' (by omega) y1 y2 hr2 B2) ?_
      rintro r H' ⟨zy1,zy2⟩
      refine⟨zy1,zy2.imp ?_ ?_⟩
      ·rintro⟨rfl,zy3,zy4,zy5⟩
       refine⟨rfl,fun z hz=>(zy3 z (by omega)).trans (q1 z hz),(zy3 _ q3).trans q2,by omega,fun y hy=> ?_⟩
       rcases List.mem_append.1 hy with hy|hy
       ·exact q4 y hy
       ·rw[List.mem_singleton.1 hy];exact zy5
      ·rintro⟨rfl,zy3,zy4⟩
       refine⟨rfl,zy3,zy4.up (by exact q3) (fun z hz hne _=> ?_) ?_⟩
       ·have hz':z<h4.next+1:=hz
        exact(q1 z (by omega)).trans (z4 (by omega)).symm
       ·rintro ns ⟨n1,n2,e,r1,r2,rfl⟩
        exact .cut (by omega) (by omega) hxm e r1 r2
     ·intro h5 h6 d1 d2 d3 d4 d5 ⟨q1,q2,q3,q5⟩
      have i6':=((d5 _ (by omega)).trans (q1 _ (by omega))).trans i6
      have TAIL:=fun rest=>plan_tail F (base:=h.next) (p3:=h.next) (p4:=h.next+1) (p5:=h.next+2) (p6:=h.next+3) (rest:=rest) d2 d1 (by omega) (by omega) i6' (.waste (kerf:=kerf) (ws:=ws) (kl:=kl) (t:=t) (a:=a) (b:=b) (by omega) (by omega) q4 fun _=>q5)
      unfold tailPl at TAIL
      simp only[cR,codeOf,f84]at TAIL
      refine kB_n ?_;refine kS_n ?_;exact TAIL _
     ·intro h5 h6 d1 d2 d3 d4 d5 hS
      obtain⟨ns,q,cc,R,y1,y2,y3,y4,y5⟩:=hS.out
      have y1':h4.next+1≤q:=y1
      refine kB_r ?_;refine kS_r ?_
      exact endA_ret (vs:=[.slice (some ⟨q,0,none⟩) ns.length cc]) d1 (res_cell (b:=h.next+3) rfl ((d5 _ (by omega)).trans y4) rfl res_nil) ⟨ns,_,_,R,rfl, .mem ⟨by omega,⟨_,_,_,(d5 _ (by omega)).trans y5,by rw[ltake_eq,ldrop_eq,List.drop_zero,List.take_of_length_le (by rw[ncs_len];omega)]⟩,ncs_len _⟩ y3.1,fun b o n e=>by cases e;exact⟨_,_,(d5 _ (by omega)).trans y5⟩,y3.2⟩
    ·have TAIL:=fun rest=>plan_tail F (base:=h.next) (p3:=h.next) (p4:=h.next+1) (p5:=h.next+2) (p6:=h.next+3) (rest:=rest) c2 c1 (by omega) (by omega) e6 (.waste (kerf:=kerf) (ws:=ws) (kl:=kl) (t:=t) (a:=a) (b:=b) (by omega) (by omega) q4 fun q=>absurd q hpos)
     unfold tailPl at TAIL
     simp only[cR,codeOf,f84]at TAIL
     refine kB_n ?_;refine kS_n ?_;refine wE_seq ?_;refine y4 ?_;refine yL ?_;refine yN ?_
     refine wO_val (a_lookup (x:=((a:Int),(b:Int))) (by exact rfl) (by exact rfl) gm3) ?_
     refine yf ?_;refine y3 ?_;refine yX ?_;refine wE_skip ?_;refine kS_n ?_;exact TAIL _
   ·intro h2 h3 c1 c2 c3 c4 c5 hS
    obtain⟨ns,q,cc,R,y1,y2,y3,y4,y5⟩:=hS.out
    have y1':h1.next+1≤q:=y1
    refine kB_r ?_;refine kS_r ?_
    exact endA_ret (vs:=[.slice (some ⟨q,0,none⟩) ns.length cc]) c1 (res_cell (b:=h.next+3) rfl ((c5 _ (by omega)).trans y4) rfl res_nil) ⟨ns,_,_,R,rfl, .mem ⟨by omega,⟨_,_,_,(c5 _ (by omega)).trans y5,by rw[ltake_eq,ldrop_eq,List.drop_zero,List.take_of_length_le (by rw[ncs_len];omega)]⟩,ncs_len _⟩ y3.1,fun b o n e=>by cases e;exact⟨_,_,(c5 _ (by omega)).trans y5⟩,y3.2⟩
end Go.A.Pk
end
section
set_option maxRecDepth 100000
namespace Go.A.Pk
variable {T:Nat→Option AFunc}
theorem tabL_bd{W kerf:Int}{ws:List Int}{kl:List Kd}(hW:0≤W)(hk:0≤kerf)(hws:∀x∈ws,0≤x∧x≤W):∀(xs:List (Nat×Nat)) (t:Tab),(∀x∈xs,1≤x.1∧1≤x.2)→Bd W t→Bd W (xs.foldl (fun t x=>upd t x (val kerf ws kl t x.1 x.2)) t)
 |[],t,_,h=>h
 |x::xs,t,hx,h=>tabL_bd hW hk hws xs _ (fun y hy=>hx y (List.mem_cons_of_mem _ hy)) (upd_bd (hx x (List.mem_cons_self ..)) (val_bd hW hk hws h (hx x (List.mem_cons_self ..)).1 (hx x (List.mem_cons_self ..)).2) h)
theorem bestV_bd{kerf:Int}{l:List Kd}(hc:chk kerf l=0){w ht:Int}(hb:OnB w ht):0≤bestV kerf l w ht∧bestV kerf l w ht≤256000000:=by
 obtain⟨q1,q2,q3,q4⟩:=chk_iff.1 hc
 have hB:Bd 1000000 (tabL kerf (l.map (·.worth)) l (boardsL w.toNat ht.toNat)):=tabL_bd (by omega) q2.1 (fun x hx=>by
  obtain⟨k,hk,rfl⟩:=List.mem_map.1 hx
  exact(q3 k hk).2.2.2) _ _ (fun x hx=>by have:=boards_of hx;omega) (fun e he=>by cases he)
 obtain⟨⟨h1,h2⟩,h3,h4⟩:=hb
 unfold bestV
 rcases look_bd (w,ht) hB with h|⟨_,_,h5,h6⟩
 ·rw[h];omega
 ·have:=area_mono (W:=1000000) (a:=w) (b:=ht) (c:=16) (d:=16) (by omega) (by omega) h2 (by omega) h4
  exact⟨h5,Int.le_trans h6 (Int.le_trans this (by omega))⟩
theorem bestR_ok{kerf:Int}{l:List Kd}{w ht:Int}(h:asked kerf l (OnB w ht)=0):bestR kerf l w ht= .tuple #[.int .i64 (bestV kerf l w ht), .int .i64 0]:=by unfold bestR;rw[if_pos h,h]
theorem bestR_no{kerf:Int}{l:List Kd}{w ht:Int}(h:¬asked kerf l (OnB w ht)=0):bestR kerf l w ht= .tuple #[.int .i64 0, .int .i64 (asked kerf l (OnB w ht))]:=by unfold bestR;rw[if_neg h]
theorem asked_ok{kerf:Int}{l:List Kd}{p:Prop}[Decidable p](hc:chk kerf l=0)(hp:p):asked kerf l p=0:=by unfold asked;rw[if_pos hc,if_pos hp]
end Go.A.Pk
end
section
set_option maxRecDepth 100000
namespace Go.A.Pk
variable {T:Nat→Option AFunc}
def wsP(l:List Kd):List Int:=l.map (·.worth)
def tabP(kerf:Int)(l:List Kd)(w ht:Int):Tab:=tabL kerf (wsP l) l (boardsL w.toNat ht.toNat)
theorem look_tabP{kerf:Int}{l:List Kd}(hc:chk kerf l=0){w ht:Int}(hb:OnB w ht)(y:Int×Int):look (tabP kerf l w ht) y=if 1≤y.1∧y.1≤w∧1≤y.2∧y.2≤ht then bestV kerf l y.1 y.2 else 0:=by
 have hk:=(chk_iff.1 hc).2.1.1
 obtain⟨⟨h1,_⟩,h3,_⟩:=hb
 have:=tab_look hk (ws:=wsP l) (kl:=l) (h:=ht.toNat) w.toNat 0 (Nat.zero_le _) y
 rw[show boardsL w.toNat ht.toNat++row (w.toNat+1) 0=boardsL w.toNat ht.toNat by simp[row]]at this
 unfold tabP
 rw[this]
 by_cases hy:1≤y.1∧y.1≤w∧1≤y.2∧y.2≤ht
 ·rw[if_pos hy,if_pos (by omega),bestV_eq hk hy.1 hy.2.2.1];rfl
 ·rw[if_neg hy,if_neg (by omega)]
theorem look_tabP_bd{kerf:Int}{l:List Kd}(hc:chk kerf l=0){w ht:Int}(hb:OnB w ht)(y:Int×Int):0≤look (tabP kerf l w ht) y∧look (tabP kerf l w ht) y≤256000000:=by
 rw[look_tabP hc hb]
 by_cases hy:1≤y.1∧y.1≤w∧1≤y.2∧y.2≤ht
 ·rw[if_pos hy]
  obtain⟨⟨_,h2⟩,_,h4⟩:=hb
  exact bestV_bd hc ⟨⟨hy.1,by omega⟩,hy.2.2.1,by omega⟩
 ·rw[if_neg hy];omega
def PlanO(kerf:Int)(l:List Kd)(w ht:Int)(v:Value)(h:Heap):Prop:=∃ns a c,v= .tuple #[.slice a ns.length c, .int .i64 (asked kerf l (OnB w ht))]∧SliceOf h 2 (.slice a ns.length c) ns.length (ncs ns)∧(U2 h (.slice a ns.length c)∧(c=UNK∨c<1000000))∧
 (asked kerf l (OnB w ht)=0→PlanR kerf (wsP l) l (tabP kerf l w ht) (w,ht) ns)∧(asked kerf l (OnB w ht)≠0→ns=[])
theorem PlanO.log{kerf:Int}{l:List Kd}{w ht:Int}(v:Value)(h':Heap)(m:List Nat)(q:PlanO kerf l w ht v h'):PlanO kerf l w ht v {h' with log:=m}:=by
 obtain⟨ns,a,c,h1,h2,h3,h4⟩:=q
 exact⟨ns,a,c,h1,h2.log m,h3,h4⟩
theorem PlanO.gc{kerf:Int}{l:List Kd}{w ht:Int}{h:Heap}(v:Value)(h1:Heap)(hv:noRef v=true)(q:PlanO kerf l w ht v h1):PlanO kerf l w ht v h:=by
 obtain⟨ns,a,c,rfl,s,u,r⟩:=q
 have hu:U2 h (.slice a ns.length c):=fun b o n e=>by cases e;simp[noRef,flatL,flat,scalL,scal,scal1]at hv
 refine⟨ns,a,c,rfl,?_,⟨hu,u.2⟩,r⟩
 clear r u hu
 generalize ns.length=n at*
 generalize ncs ns=cs at*
 cases s with
 |nil=>exact .nil
 |mem s _=>simp[noRef,flatL,flat,scalL,scal,scal1]at hv
end Go.A.Pk
end
section
set_option maxRecDepth 100000
namespace Go.A.Pk
variable {T:Nat→Option AFunc}
structure FnsSh (T:Nat→Option AFunc):Prop extends FnsW T where
 f78:T 78=some f78
 f20:T 20=some f20
 f82:T 82=some f82
 f22:T 22=some f22
theorem startE_2(kerf:Int)(l:List Kd)(p q:Prop)[Decidable p][Decidable q]:startE kerf l [decide p,decide q]=asked kerf l (p∧q):=by
 unfold startE asked
 by_cases hp:p<;>by_cases hq:q<;>simp[hp,hq]
theorem in77D(hp:primAS T)(hf:T 77=some f77){h:Heap}(hr:Rdy h){n a b:Int}:Pu T 77 [.int .i64 n, .int .i64 a, .int .i64 b] h (.bool (decide (a≤n∧n≤b))):=by
 by_cases q:a≤n∧n≤b
 ·rw[decide_eq_true q];exact in77T hp hf hr q
 ·rw[decide_eq_false q];exact in77F hp hf hr q
theorem bestV_wsP{kerf:Int}{l:List Kd}(hc:chk kerf l=0){w ht:Int}(hb:OnB w ht):bestV kerf l w ht=V kerf (wsP l) l (w,ht):=bestV_eq (chk_iff.1 hc).2.1.1 hb.1.1 hb.2.1
theorem index82(hp:primAS T)(hf:T 82=some f82){h:Heap}(hr:Rdy h){a:Option Addr}{n c:Nat}{xs:List Int}(hs:SliceOf h 1 (.slice a n c) n (ints xs))(hn:n<1000000){k:Int}{d:Nat}(hd:xs[d]? =some k)(hne:∀j,j<d→xs[j]? ≠some k):Pu T 82 [.slice a n c, .int .i64 k] h (.int .i64 d):=by
 have hlen:xs.length=n:=by have:=hs.len;simp[ints]at this;omega
 have hdn:d<n:=by have:=(List.getElem?_eq_some_iff.1 hd).1;omega
 refine .of hp hf hr rfl ?_
 refine y4 ?_;refine yM ?_;refine y3 ?_;refine wE_seq ?_;refine y4 ?_;refine yM ?_;refine yD ?_;refine yM ?_
 refine y3 ?_;refine wE_block ?_
 refine wE_loop (fun m e ds h'=>∃i:Nat,i≤d∧m=n-i∧e=[(0, .slice a n c),(1, .int .i64 k),(7, .int .i64 n),(8, .int .i64 i)]∧ds=[]∧h'=h)
  ⟨0,Nat.zero_le _,rfl,rfl,rfl,rfl⟩ ?_
 rintro m e ds h' ⟨i,hin,rfl,rfl,rfl,rfl⟩
 rcases hs.inv with⟨_,hv,h0,hl⟩|⟨b,o,cap,hv,s,hc⟩
 ·omega
 ·cases hv
  obtain⟨vs,own,t,g1,g2⟩:=slice_elem1 s (ints_get (l:=xs) (i:=i) (by omega))
  have hx:xs[i]? =some (xs.getD i 0):=by rw[List.getElem?_eq_getElem (by omega)];simp[List.getD,List.getElem?_eq_getElem (show i<xs.length by omega)]
  clear s hs
  have hlt:i<n:=by omega
  by_cases hk:i=d
  ·subst hk
   rw[hd]at hx
   have hk2:k=xs.getD i 0:=Option.some.inj hx
   refine y4 ?_;refine yt ?_;refine y3 ?_;refine wE_seq ?_;refine yY ?_;refine wE_skip ?_;refine kS_n ?_;refine wE_seq ?_;refine wE_block ?_;refine y4 ?_;refine yM ?_;refine yM ?_;refine y3 ?_;refine y4 ?_;refine yM ?_;refine yM ?_;refine yM ?_
   refine wO_val (a_iaddrS (by exact rfl) (by exact rfl) (by omega)) ?_;refine wO_val (a_load (by exact rfl) (by assumption) (by assumption)) ?_;refine yt ?_;refine y3 ?_;refine yY ?_
   refine y4 ?_;refine yM ?_;refine yM ?_;refine y3 ?_;refine wE_ret ?_;refine kB_r ?_;refine kS_r ?_;refine kS_r ?_;refine kB_r ?_;refine kS_r ?_
   exact endP_ret hr.log rfl rfl
  ·have hk2:¬k=xs.getD i 0:=fun e=>hne i (by omega) (by rw[hx,e])
   refine y4 ?_;refine yt ?_;refine y3 ?_;refine wE_seq ?_;refine yY ?_;refine wE_skip ?_;refine kS_n ?_;refine wE_seq ?_;refine wE_block ?_;refine y4 ?_;refine yM ?_;refine yM ?_;refine y3 ?_;refine y4 ?_;refine yM ?_;refine yM ?_;refine yM ?_
   refine wO_val (a_iaddrS (by exact rfl) (by exact rfl) (by omega)) ?_;refine wO_val (a_load (by exact rfl) (by assumption) (by assumption)) ?_;refine yf ?_;refine y3 ?_;refine yX ?_
   refine wE_skip ?_;refine kB_n ?_;refine kS_n ?_;refine wE_region ?_;refine yinc ?_;refine yM ?_;refine y3 ?_
   exact⟨n-(i+1),by omega,i+1,by omega,rfl,rfl,rfl,rfl⟩
theorem least_of{P:Nat→Prop}[DecidablePred P]:∀n,P n→∃d,d≤n∧P d∧∀j,j<d→¬P j:=by
 intro n
 induction n using Nat.strongRecOn with
 |ind n ih=>
  intro hn
  by_cases h:∃j,j<n∧P j
  ·obtain⟨j,hj,hP⟩:=h
   obtain⟨d,h1,h2,h3⟩:=ih j hj hP
   exact⟨d,by omega,h2,h3⟩
  ·exact⟨n,Nat.le_refl _,hn,fun j hj hP=>h ⟨j,hj,hP⟩⟩
theorem enough_ex{kerf:Int}{l:List Kd}(hc:chk kerf l=0){w ht:Nat}(hb:OnB w ht):∃d,d≤w+ht∧ShF kerf (wsP l) l d ((w:Int),(ht:Int))=bestV kerf l w ht∧(∀j,j<d→ShF kerf (wsP l) l j ((w:Int),(ht:Int))≠bestV kerf l w ht)∧enoughD (fun d=>ShF kerf (wsP l) l d ((w:Int),(ht:Int))) (bestV kerf l w ht)=d:=by
 obtain⟨d,h1,h2,h3⟩:=least_of (P:=fun d=>ShF kerf (wsP l) l d ((w:Int),(ht:Int))=bestV kerf l w ht) (w+ht) (by rw[bestV_wsP hc hb];exact ShF_V (chk_iff.1 hc).2.1.1 _ _ (by simp[sz]))
 obtain⟨⟨_,q1⟩,_,q2⟩:=hb
 exact⟨d,h1,h2,h3,enough_of (by omega) h2 h3⟩
def OnD(w ht dp:Int):Prop:=OnB w ht∧(0≤dp∧dp≤40)
instance(w ht dp:Int):Decidable (OnD w ht dp):=by unfold OnD;infer_instance
def shalR(kerf:Int)(l:List Kd)(w ht dp:Int):Value:= .tuple #[.int .i64 (if asked kerf l (OnD w ht dp)=0 then ShF kerf (wsP l) l dp.toNat (w,ht)else 0), .int .i64 (asked kerf l (OnD w ht dp))]
def enR(kerf:Int)(l:List Kd)(w ht:Int):Value:= .tuple #[.int .i64 (if asked kerf l (OnB w ht)=0 then(enoughD (fun d=>ShF kerf (wsP l) l d (w,ht)) (bestV kerf l w ht):Nat)else 0), .int .i64 (asked kerf l (OnB w ht))]
theorem wsP_bd{kerf:Int}{l:List Kd}(hc:chk kerf l=0):∀x∈wsP l,0≤x∧x≤1000000:=fun x hx=>by
 obtain⟨k,hk,rfl⟩:=List.mem_map.1 hx
 exact((chk_iff.1 hc).2.2.1 k hk).2.2.2
set_option maxHeartbeats 8000000 in
theorem shallow20(F:FnsSh T){h:Heap}(hr:Rdy h){a:Option Addr}{n c:Nat}{l:List Kd}(hs:SliceOf h 5 (.slice a n c) n (kcs l))(kerf:Int)(hn:n<1000000)(w ht dp:Int):Pu T 20 [.agg #[.slice a n c, .int .i64 kerf], .int .i64 w, .int .i64 ht, .int .i64 dp] h (shalR kerf l w ht dp):=by
 have hp:=F.toFnsW.toFnsV.p
 refine .of hp F.f20 hr rfl ?_
 have hx:Ext h (h.push (.cells [.slice a n c, .int .i64 kerf] true 1)):=(Ext.refl h).push _
 obtain rfl:n=l.length:=by have:=hs.len;rw[kcs_length]at this;omega
 refine y4 ?_;refine yB ?_;refine yM ?_;refine yM ?_;refine y3 ?_;refine wE_seq ?_;refine wE_draw ?_
 refine qN ?_
 refine qM ?_;refine qM ?_;refine qM ?_
 refine qC ?_
 refine FW.puD (board76 F.toFnsW (.of (hx.wf hr.wf)) w ht) (by apply ra_keepC rfl (rq_quiet rfl (a_mov (by exact rfl)) (by exact sv_int _ _)) rfl;apply ra_dropC rfl;apply ra_dropC rfl;apply ra_keepC rfl (rq_quiet rfl (a_loadN (by exact rfl) (by(simp(disch:=first|omega|(simp only[z1,z2];omega))only[z3,z4,z5,z6,z7,z1,z2, *];exact rfl)) (by exact rfl) (by exact rfl)) (by exact sv_agg (by refine sl_cons (s1_slice _ _ _) ?_;refine sl_cons (s1_int _ _) ?_;exact sl_nil))) rfl;exact ra_nil) ?_
 skip
 refine qC ?_
 refine FW.puD (in77D hp F.toFnsW.toFnsE.toFnsA.f77 (.of (hx.wf hr.wf))) (by apply ra_dropC rfl;apply ra_keepC rfl (rq_quiet rfl (a_loadN (by exact rfl) (by(simp(disch:=first|omega|(simp only[z1,z2];omega))only[z3,z4,z5,z6,z7,z1,z2, *];exact rfl)) (by exact rfl) (by exact rfl)) (by exact sv_agg (by refine sl_cons (s1_slice _ _ _) ?_;refine sl_cons (s1_int _ _) ?_;exact sl_nil))) rfl;exact ra_nil) ?_
 refine wD_new rfl rfl rfl (by exact rfl) (by exact rfl) (by exact rfl) (a_bslice (by exact rfl) (by exact rfl)) (by refine rs_cons (rq_quiet rfl (a_loadN (by exact rfl) (by(simp(disch:=first|omega|(simp only[z1,z2];omega))only[z3,z4,z5,z6,z7,z1,z2, *];exact rfl)) (by exact rfl) (by exact rfl)) (by exact sv_agg (by refine sl_cons (s1_slice _ _ _) ?_;refine sl_cons (s1_int _ _) ?_;exact sl_nil))) ?_;exact rs_nil) ?_
 refine qC ?_
 have hx2:=hx.push (.cells [.bool (decide (OnB w ht)), .bool (decide (0≤dp∧dp≤40))] true 1)
 refine FW.alD (startedB75 F.toFnsW.toFnsE (.of (hx2.wf hr.wf)) ((hs.ext hx2).log []) kerf hn (bl:=[decide (OnB w ht),decide (0≤dp∧dp≤40)]) (m:=2) (.mem ⟨Nat.lt_succ_self _,⟨_,_,_,z3 _ _,rfl⟩,rfl⟩ (Nat.le_refl _)) (by omega)) (fun v h' m q=>StartQ.logs v h' m q) ?_
 rintro _ h1 hx3 ⟨p,rfl,hst⟩
 have e0:startE kerf l [decide (OnB w ht),decide (0≤dp∧dp≤40)]=asked kerf l (OnD w ht dp):=startE_2 ..
 rw[e0]at hst
 rw[e0]
 refine⟨_,by apply ra_dropC rfl;apply ra_dropC rfl;exact ra_nil,?_⟩
 have w1:WF h1:=hx3.wf (hx2.wf hr.wf)
 have hx13:Ext h h1:=hx2.trans hx3
 have hl1:h1.log=[]:=hx13.log.trans hr.log
 unfold shalR
 by_cases ha:asked kerf l (OnD w ht dp)=0
 ·obtain⟨bb,wa,wc,rfl,gb,hws⟩:=hst ha
  obtain⟨hc,hb,hd⟩:=asked_zero ha
  obtain⟨q1,q2,q3,q4⟩:=chk_iff.1 hc
  obtain⟨⟨e1,e2⟩,e3,e4⟩:=hb
  obtain⟨wn,rfl⟩:=Int.eq_ofNat_of_zero_le (show 0≤w by omega)
  obtain⟨hn',rfl⟩:=Int.eq_ofNat_of_zero_le (show 0≤ht by omega)
  obtain⟨dn,rfl⟩:=Int.eq_ofNat_of_zero_le (show 0≤dp by omega)
  rw[if_pos ha,ha,Int.toNat_natCast]
  clear hst e0 hx3
  refine qM ?_;refine qE ?_;refine qE ?_
  refine qM ?_;refine qM ?_;refine wD_nil ?_;refine y1 ?_;refine kS_n ?_;refine wE_seq ?_;refine y4 ?_
  refine yM ?_;refine yf ?_;refine y3 ?_;refine yX ?_;refine wE_skip ?_;refine kS_n ?_;refine y4 ?_
  refine yM ?_;refine yM ?_;refine yM ?_;refine yM ?_
  refine yC ?_
  refine FW.al (shallow78 F.toFnsW.toFnsV F.f78 (.of w1) (w:=wn) (ht:=hn') (dp:=dn) (W:=1000000) (ws:=wsP l) (by omega) (by omega) (by omega) (by omega) ⟨by omega,by omega⟩ (by omega) (wsP_bd hc) gb ((hs.ext hx13).log []) (hws.log [])) (fun v h' m q=>q.keep (h':={h' with log:=m}) (Nat.le_refl _) fun _ _ _=>rfl) ?_
  rintro _ h2 hx4 own
  obtain⟨q,cc,rfl,o1,o2,o3,o4,o5⟩:=own.ex
  have hget:lget (ints (shL kerf (wsP l) l wn hn' (dn+1))) (0+dn*1)=some (.int .i64 (ShF kerf (wsP l) l dn ((wn:Int),(hn':Int)))):=by
   rw[lget_eq,Nat.zero_add,Nat.mul_one]
   unfold ints shL
   rw[List.getElem?_map,List.getElem?_map,List.getElem?_range (Nat.lt_succ_self _)]
   simp only[z7]
   rw[tabS_look q2.1,if_pos (by dsimp only;omega)]
  have hsub:numOp .sub (.int .i64 ((dn+1:Nat):Int)) (.int .i64 1)=some (.int .i64 (dn:Nat)):=m_sub (by rw[wrapA_i64]<;>omega)
  have hlg:h2.log=[]:=hx4.log.trans hl1
  clear own hx4
  refine yM ?_;refine y3 ?_;refine y4 ?_;refine yM ?_;refine yM ?_;refine yD ?_
  refine wO_val (a_num (by exact rfl) (by exact rfl) (by with_reducible assumption)) ?_;refine wO_val (a_iaddrS (by exact rfl) (by exact rfl) (by omega)) ?_;refine wO_val (a_load (by exact rfl) (by assumption) (by assumption)) ?_;refine yM ?_;refine yM ?_;refine y3 ?_;refine wE_ret ?_
  exact endP_ret hlg rfl rfl
 ·rw[if_neg ha]
  refine qM ?_;refine qE ?_;refine qE ?_
  refine qM ?_;refine qM ?_;refine wD_nil ?_;refine y1 ?_;refine kS_n ?_;refine wE_seq ?_;refine y4 ?_
  refine yM ?_;refine yt ?_;refine y3 ?_;refine yY ?_;refine y4 ?_;refine yM ?_
  refine yM ?_;refine yM ?_;refine y3 ?_;refine wE_ret ?_;refine kS_r ?_
  exact endP_ret hl1 rfl rfl
set_option maxHeartbeats 8000000 in
theorem enough22(F:FnsSh T){h:Heap}(hr:Rdy h){a:Option Addr}{n c:Nat}{l:List Kd}(hs:SliceOf h 5 (.slice a n c) n (kcs l))(kerf:Int)(hn:n<1000000)(w ht:Int):Pu T 22 [.agg #[.slice a n c, .int .i64 kerf], .int .i64 w, .int .i64 ht] h (enR kerf l w ht):=by
 have hp:=F.toFnsW.toFnsV.p
 refine .of hp F.f22 hr rfl ?_
 have hx:Ext h (h.push (.cells [.slice a n c, .int .i64 kerf] true 1)):=(Ext.refl h).push _
 obtain rfl:n=l.length:=by have:=hs.len;rw[kcs_length]at this;omega
 refine y4 ?_;refine yB ?_;refine yM ?_;refine yM ?_;refine y3 ?_;refine wE_seq ?_;refine wE_draw ?_
 refine qN ?_
 refine qM ?_;refine qM ?_
 refine qC ?_
 refine FW.puD (board76 F.toFnsW (.of (hx.wf hr.wf)) w ht) (by apply ra_dropC rfl;apply ra_dropC rfl;apply ra_keepC rfl (rq_quiet rfl (a_loadN (by exact rfl) (by(simp(disch:=first|omega|(simp only[z1,z2];omega))only[z3,z4,z5,z6,z7,z1,z2, *];exact rfl)) (by exact rfl) (by exact rfl)) (by exact sv_agg (by refine sl_cons (s1_slice _ _ _) ?_;refine sl_cons (s1_int _ _) ?_;exact sl_nil))) rfl;exact ra_nil) ?_
 refine wD_new rfl rfl rfl (by exact rfl) (by exact rfl) (by exact rfl) (a_bslice (by exact rfl) (by exact rfl)) (by refine rs_cons (rq_quiet rfl (a_loadN (by exact rfl) (by(simp(disch:=first|omega|(simp only[z1,z2];omega))only[z3,z4,z5,z6,z7,z1,z2, *];exact rfl)) (by exact rfl) (by exact rfl)) (by exact sv_agg (by refine sl_cons (s1_slice _ _ _) ?_;refine sl_cons (s1_int _ _) ?_;exact sl_nil))) ?_;exact rs_nil) ?_
 refine qC ?_
 have hx2:=hx.push (.cells [.bool (decide (OnB w ht))] true 1)
 refine FW.alD (startedB75 F.toFnsW.toFnsE (.of (hx2.wf hr.wf)) ((hs.ext hx2).log []) kerf hn (bl:=[decide (OnB w ht)]) (m:=1) (.mem ⟨Nat.lt_succ_self _,⟨_,_,_,z3 _ _,rfl⟩,rfl⟩ (Nat.le_refl _)) (by omega)) (fun v h' m q=>StartQ.logs v h' m q) ?_
 rintro _ h1 hx3 ⟨p,rfl,hst⟩
 rw[startE_one]at hst
 rw[startE_one]
 refine⟨_,by apply ra_dropC rfl;apply ra_dropC rfl;exact ra_nil,?_⟩
 have w1:WF h1:=hx3.wf (hx2.wf hr.wf)
 have hx13:Ext h h1:=hx2.trans hx3
 have hl1:h1.log=[]:=hx13.log.trans hr.log
 unfold enR
 by_cases ha:asked kerf l (OnB w ht)=0
 ·obtain⟨bb,wa,wc,rfl,gb,hws⟩:=hst ha
  obtain⟨hc,hb⟩:=asked_zero ha
  obtain⟨q1,q2,q3,q4⟩:=chk_iff.1 hc
  have hbb:=hb
  obtain⟨⟨e1,e2⟩,e3,e4⟩:=hbb
  obtain⟨wn,rfl⟩:=Int.eq_ofNat_of_zero_le (show 0≤w by omega)
  obtain⟨hn',rfl⟩:=Int.eq_ofNat_of_zero_le (show 0≤ht by omega)
  obtain⟨d,d1,d2,d3,d4⟩:=enough_ex hc hb
  have hbv:bestV kerf l wn hn'=look (tabL kerf (wsP l) l (boardsL wn hn')) ((wn:Int),(hn':Int)):=rfl
  rw[if_pos ha,ha,d4]
  have hadd:numOp .add (.int .i64 (wn:Int)) (.int .i64 (hn':Int))=some (.int .i64 ((wn+hn':Nat):Int)):=m_add (by rw[wrapA_i64]<;>omega)
  clear hst hx3 d4
  refine qM ?_;refine qE ?_;refine qE ?_
  refine qM ?_;refine qM ?_;refine wD_nil ?_;refine y1 ?_;refine kS_n ?_;refine wE_seq ?_;refine y4 ?_
  refine yM ?_;refine yf ?_;refine y3 ?_;refine yX ?_;refine wE_skip ?_;refine kS_n ?_;refine y4 ?_
  refine yM ?_;refine yM ?_;refine yM ?_;refine yM ?_;refine yM ?_;refine wO_val (a_num (by exact rfl) (by exact rfl) (by with_reducible assumption)) ?_
  refine yC ?_
  refine FW.al (shallow78 F.toFnsW.toFnsV F.f78 (.of w1) (w:=wn) (ht:=hn') (dp:=wn+hn') (W:=1000000) (ws:=wsP l) (by omega) (by omega) (by omega) (by omega) ⟨by omega,by omega⟩ (by omega) (wsP_bd hc) gb ((hs.ext hx13).log []) (hws.log [])) (fun v h' m q=>q.keep (h':={h' with log:=m}) (Nat.le_refl _) fun _ _ _=>rfl) ?_
  rintro _ h2 hx4 own
  have w2:WF h2:=hx4.wf w1
  have gb2:=(hx4.old _ (WF.get_lt w1 gb)).trans gb
  have hx24:=hx13.trans hx4
  refine yM ?_;refine yM ?_;refine yM ?_
  refine yC ?_
  refine FW.al (best83 F.toFnsW.toFnsV (.of w2) (w:=wn) (ht:=hn') (W:=1000000) (ws:=wsP l) (by omega) (by omega) (by omega) ⟨by omega,by omega⟩ (by omega) (wsP_bd hc) gb2 ((hs.ext hx24).log []) ((hws.ext hx4).log [])) (fun _ _ _ q=>q) ?_
  rintro _ h3 hx5 ⟨r,rfl,gr⟩
  have w3:WF h3:=hx5.wf w2
  have hlg:h3.log=[]:=(hx24.trans hx5).log.trans hr.log
  have own3:=own.keep (h':=h3) hx5.next fun z _ hz=>hx5.old z hz
  obtain⟨q,cc,rfl,o1,o2,o3,o4,o5⟩:=own3.ex
  have hsl:=own3.slice (by omega)
  have hget:∀j,j≤wn+hn'→(shL kerf (wsP l) l wn hn' (wn+hn'+1))[j]? =some (ShF kerf (wsP l) l j ((wn:Int),(hn':Int))):=fun j hj=>by
   unfold shL
   rw[List.getElem?_map,List.getElem?_range (by omega)]
   simp only[z7]
   rw[tabS_look q2.1,if_pos (by dsimp only;omega)]
  clear own own3 hx4 hx5 gb2 o1 o2 o3 o4
  refine yM ?_;refine yM ?_;refine wO_val (a_build (by exact rfl)) ?_
  refine wO_val (a_lookup (x:=((wn:Int),(hn':Int))) (by exact rfl) (by exact rfl) gr) ?_
  skip
  refine yC ?_
  rw[←hbv]
  refine FW.pu (index82 hp F.f82 (.of w3) (hsl.log []) (by omega) (d:=d) (by rw[hget d d1,d2]) (fun j hj=>by rw[hget j (by omega)];exact fun e=>d3 j hj (Option.some.inj e))) ?_
  refine yM ?_;refine yM ?_;refine y3 ?_;refine wE_ret ?_
  exact endP_ret hlg rfl rfl
 ·rw[if_neg ha]
  refine qM ?_;refine qE ?_;refine qE ?_
  refine qM ?_;refine qM ?_;refine wD_nil ?_;refine y1 ?_;refine kS_n ?_;refine wE_seq ?_;refine y4 ?_
  refine yM ?_;refine yt ?_;refine y3 ?_;refine yY ?_;refine y4 ?_;refine yM ?_
  refine yM ?_;refine yM ?_;refine y3 ?_;refine wE_ret ?_;refine kS_r ?_
  exact endP_ret hl1 rfl rfl
end Go.A.Pk
end
section
namespace Go.A.Pk
def pos(t:Tab):Tab:=t.map fun e=>(e.1,if e.2<0 then 0 else e.2)
structure Bw (W:Int) (t:Tab):Prop where
 up:Bd W (pos t)
 low:∀e∈t,never≤e.2
end Go.A.Pk
end
section
set_option maxRecDepth 100000
namespace Go.A.Pk
variable {T:Nat→Option AFunc}
theorem pos_upd(x:Nat×Nat)(v:Int):∀t:Tab,pos (upd t x v)=upd (pos t) x (if v<0 then 0 else v)
 |[]=>rfl
 |e::t=>by
  have hk:isKey (x.1,x.2) (e.1,if e.2<0 then 0 else e.2)=isKey (x.1,x.2) e:=rfl
  simp only[upd,pos,List.map_cons,hk]
  split
  ·rfl
  ·simp only[List.map_cons]
   exact congrArg _ (pos_upd x v t)
theorem mem_upd{x:Nat×Nat}{v:Int}:∀{t:Tab} {e:(Nat×Nat)×Int},e∈upd t x v→e=(x,v)∨e∈t
 |[],e,h=>by simp only[upd,List.mem_singleton]at h;exact .inl h
 |e0::t,e,h=>by
  simp only[upd]at h
  split at h
  ·rcases List.mem_cons.1 h with h|h
   ·exact .inl h
   ·exact .inr (List.mem_cons_of_mem _ h)
  ·rcases List.mem_cons.1 h with h|h
   ·exact .inr (h▸List.mem_cons_self ..)
   ·exact(mem_upd h).imp id (List.mem_cons_of_mem _)
theorem Bw.upd{W:Int}{t:Tab}{x:Nat×Nat}{v:Int}(h:Bw W t)(hW:0≤W)(hx:1≤x.1∧1≤x.2)(hv:never≤v∧v≤W*((x.1:Int)*(x.2:Int))):Bw W (Pk.upd t x v)where
 up:=by
  rw[pos_upd]
  have h0:0≤W*((x.1:Int)*(x.2:Int)):=Int.mul_nonneg hW (Int.mul_nonneg (by omega) (by omega))
  exact upd_bd hx (by split<;>omega) h.up
 low:=fun e he=>by
  rcases mem_upd he with rfl|he
  ·exact hv.1
  ·exact h.low e he
end Go.A.Pk
end
section
namespace Go.A.Pk
def UF(kerf:Int)(ws:List Int)(kl:List Kd)(kind:Nat):Nat→Int×Int→Int
 |0,_=>never
 |n+1,p=>if 1≤p.1∧1≤p.2 then foldM (fun x=>mx (UF kerf ws kl kind n (oneB x p.1.toNat p.2.toNat)+V kerf ws kl (twoB kerf x p.1.toNat p.2.toNat)) (V kerf ws kl (oneB x p.1.toNat p.2.toNat)+UF kerf ws kl kind n (twoB kerf x p.1.toNat p.2.toNat))) (cutsL p.1.toNat p.2.toNat) (foldM (leafW ws kind) (leavesL p.1.toNat p.2.toNat kl 0) never)else never
variable {kerf:Int} {ws ws':List Int} {kl:List Kd} {kind:Nat}
def U(kerf:Int)(ws:List Int)(kl:List Kd)(kind:Nat)(p:Int×Int):Int:=UF kerf ws kl kind (sz p) p
theorem tab_look0(hk:0≤kerf){w h:Nat}(y:Int×Int):look (tabL kerf ws kl (boardsL w h)) y=if 1≤y.1∧y.1≤w∧1≤y.2∧y.2≤h then V kerf ws kl y else 0:=by
 have:=tab_look hk (ws:=ws) (kl:=kl) (h:=h) w 0 (Nat.zero_le _) y
 rw[show boardsL w h++row (w+1) 0=boardsL w h by simp[row]]at this
 rw[this]
 by_cases hc:1≤y.1∧y.1≤w∧1≤y.2∧y.2≤h
 ·rw[if_pos hc,if_pos (.inl hc)]
 ·rw[if_neg hc,if_neg (by omega)]
theorem tab_V(hk:0≤kerf){w h:Nat}(z:Int×Int)(hz:1≤z.1∧1≤z.2→z.1≤w∧z.2≤h):look (tabL kerf ws kl (boardsL w h)) z=V kerf ws kl z:=by
 rw[tab_look0 hk]
 by_cases hc:1≤z.1∧1≤z.2
 ·rw[if_pos (by omega)]
 ·rw[if_neg (by omega),V_out hc]
structure More (kind:Nat) (d:Int) (ws ws':List Int):Prop where
 pos:0≤d
 here:ws'.getD kind 0=ws.getD kind 0+d
 other:∀i,i≠kind→ws'.getD i 0=ws.getD i 0
theorem More.set{d:Int}(h0:0≤d)(hk:kind<ws.length):More kind d ws (ws.set kind (ws.getD kind 0+d))where
 pos:=h0
 here:=by simp[List.getD,hk]
 other:=fun i hi=>by simp[List.getD,List.getElem?_set_ne (Ne.symm hi)]
end Go.A.Pk
end
section
set_option maxRecDepth 100000
namespace Go.A.Pk
variable {T:Nat→Option AFunc}
theorem ints_len(l:List Int):(ints l).length=l.length:=by simp[ints]
theorem st_int{xs:List Int}{i:Nat}{z:Int}(hi:i<xs.length):(Nat.beq (llen (cellsOf (.int .i64 z))) 1&&Nat.ble (0+i*1+1) (llen (ints xs))&&ones (cellsOf (.int .i64 z)))=true:=by
 simp[cellsOf,ones,llen_eq,ints_len];omega
theorem puts_int{xs:List Int}{i:Nat}{z:Int}:lputs (ints xs) (0+i*1) (cellsOf (.int .i64 z))=ints (xs.set i z):=by
 simp[cellsOf,lputs,lset_eq,ints,List.map_set]
end Go.A.Pk
end
section
namespace Go.A.Pk
def wsOf(l:List Kd):List Int:=l.map (·.worth)
def wsM(l:List Kd)(kind:Nat)(more:Int):List Int:=(wsOf l).set kind ((wsOf l).getD kind 0+more)
def kw(kerf:Int)(l:List Kd)(kind:Nat)(p:Int×Int)(more:Int):Int:=U kerf (wsM l kind more) l kind p
def kb(kerf:Int)(l:List Kd)(kind:Nat)(p:Int×Int)(more:Int):Int:=V kerf (wsM l kind more) l p
end Go.A.Pk
end
section
set_option maxRecDepth 100000
namespace Go.A.Pk
variable {T:Nat→Option AFunc}
theorem wsOf_bd{kerf:Int}{l:List Kd}(hc:chk kerf l=0):∀x∈wsOf l,0≤x∧x≤1000000:=fun x hx=>by
 obtain⟨k,hk,rfl⟩:=List.mem_map.1 hx
 obtain⟨q1,q2,q3,q4⟩:=chk_iff.1 hc
 exact(q3 k hk).2.2.2
end Go.A.Pk
end
section
set_option maxRecDepth 100000
namespace Go.A.Pk
variable {T:Nat→Option AFunc}
def IntsQ(er:Int)(xs:List Int)(v:Value)(h:Heap):Prop:=∃a c,v= .tuple #[.slice a xs.length c, .int .i64 er]∧SliceOf h 1 (.slice a xs.length c) xs.length (ints xs)
theorem IntsQ.log{er:Int}{xs:List Int}(v:Value)(h':Heap)(m:List Nat)(q:IntsQ er xs v h'):IntsQ er xs v {h' with log:=m}:=by
 obtain⟨a,c,h1,h2⟩:=q
 exact⟨a,c,h1,h2.log m⟩
theorem IntsQ.gc{er:Int}{xs:List Int}{h:Heap}(v:Value)(h1:Heap)(hv:noRef v=true)(q:IntsQ er xs v h1):IntsQ er xs v h:=by
 obtain⟨a,c,rfl,h2⟩:=q
 refine⟨a,c,rfl,?_⟩
 generalize xs.length=n at*
 generalize ints xs=cs at*
 cases h2 with
 |nil=>exact .nil
 |mem s _=>simp[noRef,flatL,flat,scalL,scal,scal1]at hv
theorem IntsQ.ret{er:Int}{xs:List Int}{s:Value}{h:Heap}(hs:SliceOf h 1 s xs.length (ints xs)):IntsQ er xs (.tuple #[s, .int .i64 er]) h:=by
 have hi:=hs.inv
 rcases hi with⟨c,rfl,h0,_⟩|⟨b,o,c,rfl,_,_⟩
 ·refine⟨none,c,?_,?_⟩
  ·rw[h0]
  ·rw[h0]at hs⊢;exact hs
 ·exact⟨_,_,rfl,hs⟩
end Go.A.Pk
end
section
set_option maxRecDepth 100000
namespace Go.A.Pk
variable {T:Nat→Option AFunc}
def grid(f:Nat→Nat→Int):List Int:=(List.range 289).map fun i=>f (i / 17) (i % 17)
def updF(f:Nat→Nat→Int)(a b:Nat)(z:Int)(x y:Nat):Int:=if x=a∧y=b then z else f x y
theorem grid_len(f:Nat→Nat→Int):(grid f).length=289:=by simp[grid]
theorem grid_congr{f g:Nat→Nat→Int}(h:∀x y,x<17→y<17→f x y=g x y):grid f=grid g:=by
 unfold grid
 apply List.map_congr_left
 intro i hi
 have:=List.mem_range.1 hi
 exact h _ _ (by omega) (by omega)
theorem grid_get{f:Nat→Nat→Int}{a b:Nat}(ha:a<17)(hb:b<17):lget (ints (grid f)) (0+a*17+b*1)=some (.int .i64 (f a b)):=by
 rw[lget_eq]
 have h:(ints (grid f))[a*17+b]? =some (.int .i64 (f a b)):=by
  unfold ints grid
  rw[List.getElem?_map,List.getElem?_map,List.getElem?_range (by omega)]
  have e1:(a*17+b) / 17=a:=by omega
  have e2:(a*17+b) % 17=b:=by omega
  simp only[z7,e1,e2]
 rw[show 0+a*17+b*1=a*17+b by omega]
 exact h
theorem grid_set{f:Nat→Nat→Int}{a b:Nat}(hb:b<17)(z:Int):(grid f).set (a*17+b) z=grid (updF f a b z):=by
 apply List.ext_getElem?
 intro i
 unfold grid
 rw[List.getElem?_set,List.getElem?_map,List.getElem?_map]
 by_cases hi:i<289
 ·rw[List.getElem?_range hi]
  unfold updF
  by_cases e:a*17+b=i
  ·rw[if_pos e,if_pos (by simp;omega)]
   simp only[z7]
   rw[if_pos (by omega)]
  ·rw[if_neg e]
   simp only[z7]
   rw[if_neg (by omega)]
 ·have hn:(List.range 289)[i]? =none:=List.getElem?_eq_none (by simp;omega)
  rw[hn]
  by_cases e:a*17+b=i
  ·rw[if_pos e,if_neg (by simp;omega)];rfl
  ·rw[if_neg e];rfl
theorem grid_put{f:Nat→Nat→Int}{a b:Nat}(hb:b<17)(z:Int):lputs (ints (grid f)) (0+a*17+b*1) (cellsOf (.int .i64 z))=ints (grid (updF f a b z)):=by
 rw[←grid_set hb]
 simp[cellsOf,lputs,lset_eq,ints,List.map_set]
theorem grid_st{f:Nat→Nat→Int}{a b:Nat}{z:Int}(ha:a<17)(hb:b<17):(Nat.beq (llen (cellsOf (.int .i64 z))) 1&&Nat.ble (0+a*17+b*1+1) (llen (ints (grid f)))&&ones (cellsOf (.int .i64 z)))=true:=by
 have h1:(ints (grid f)).length=289:=by rw[ints_len,grid_len]
 simp[cellsOf,ones,llen_eq,h1]
 omega
theorem grid_zero:lrep 289 (Value.int .i64 0)=ints (grid fun _ _=>0):=by
 have h:∀n,lrep n (Value.int .i64 0)=ints ((List.range n).map fun _=>(0:Int)):=by
  intro n
  induction n with
  |zero=>rfl
  |succ n ih=>
   rw[lrep,ih]
   simp[ints,List.range_succ_eq_map]
 exact h 289
def plankB(k:Kd)(a b:Nat):Bool:=decide (k.w=a∧k.h=b∨k.turn=true∧k.h=a∧k.w=b)
set_option maxHeartbeats 4000000 in
theorem plank112(hp:primAS T)(hf:T 112=some f112){h:Heap}(hr:Rdy h)(k:Kd)(a b:Nat):Pu T 112 [.agg (kc k).toArray, .int .i64 a, .int .i64 b] h (.bool (plankB k a b)):=by
 refine .of hp hf hr rfl ?_
 obtain⟨id,kw,kh,wo,tu⟩:=k
 unfold plankB kc
 simp only
 by_cases c1:¬kw≠a
 ·by_cases c2:¬kh≠b
  ·rw[decide_eq_true (by omega)]
   refine y4 ?_;refine yB ?_;refine yM ?_;refine y3 ?_;refine y4 ?_;refine yF ?_
   refine yL ?_;refine yM ?_
   refine yt ?_;refine yM ?_;refine yO ?_;refine yF ?_;refine yO ?_
   refine yL ?_;refine yO ?_;refine yM ?_;refine yO ?_
   refine yt ?_;refine yT ?_;refine yM ?_;refine yP ?_;refine yP ?_;refine yP ?_;refine wO_off2 (by exact rfl) ?_;refine wO_off2 (by exact rfl) ?_
   refine wO_off2 (by exact rfl) ?_;refine wO_off2 (by exact rfl) ?_;refine yP ?_;refine yP ?_;refine wO_off2 (by exact rfl) ?_;refine wO_off2 (by exact rfl) ?_;refine wO_off2 (by exact rfl) ?_;refine wO_off2 (by exact rfl) ?_;refine yP ?_
   refine yT ?_;refine yM ?_;refine y3 ?_;refine wE_ret ?_
   exact endP_ret hr.log rfl rfl
  ·cases tu with
   |false=>
    rw[decide_eq_false (by simp;omega)]
    refine y4 ?_;refine yB ?_;refine yM ?_;refine y3 ?_;refine y4 ?_;refine yF ?_
    refine yL ?_;refine yM ?_
    refine yt ?_;refine yM ?_;refine yO ?_;refine yF ?_;refine yO ?_
    refine yL ?_;refine yO ?_;refine yM ?_;refine yO ?_
    refine yf ?_;refine yT ?_;refine yM ?_;refine yO ?_;refine yF ?_;refine yO ?_
    refine yL ?_;refine yO ?_;refine yM ?_
    refine yP ?_;refine yP ?_;refine yP ?_;refine yP ?_;refine yO ?_;refine yU ?_;refine yO ?_;refine yM ?_;refine yP ?_
    refine yP ?_;refine yP ?_;refine yP ?_;refine yO ?_;refine yU ?_;refine yU ?_;refine yM ?_;refine y3 ?_;refine wE_ret ?_
    exact endP_ret hr.log rfl rfl
   |true=>
    by_cases c3:¬kh≠a
    ·by_cases c4:¬kw≠b
     ·rw[decide_eq_true (by simp;omega)]
      refine y4 ?_;refine yB ?_;refine yM ?_;refine y3 ?_;refine y4 ?_;refine yF ?_
      refine yL ?_;refine yM ?_
      refine yt ?_;refine yM ?_;refine yO ?_;refine yF ?_;refine yO ?_
      refine yL ?_;refine yO ?_
      refine yM ?_;refine yO ?_;refine yt ?_;refine yT ?_;refine yM ?_;refine yP ?_;refine yP ?_;refine yP ?_
      refine wO_off2 (by exact rfl) ?_;refine wO_off2 (by exact rfl) ?_;refine wO_off2 (by exact rfl) ?_;refine wO_off2 (by exact rfl) ?_;refine yP ?_;refine yP ?_;refine wO_off2 (by exact rfl) ?_;refine wO_off2 (by exact rfl) ?_;refine wO_off2 (by exact rfl) ?_;refine wO_off2 (by exact rfl) ?_
      refine yP ?_;refine yT ?_;refine yM ?_;refine y3 ?_;refine wE_ret ?_
      exact endP_ret hr.log rfl rfl
     ·rw[decide_eq_false (by simp;omega)]
      refine y4 ?_;refine yB ?_;refine yM ?_;refine y3 ?_;refine y4 ?_;refine yF ?_
      refine yL ?_;refine yM ?_
      refine yt ?_;refine yM ?_;refine yO ?_;refine yF ?_;refine yO ?_
      refine yL ?_;refine yO ?_;refine yM ?_;refine yO ?_
      refine yf ?_;refine yT ?_;refine yM ?_;refine yO ?_;refine yF ?_;refine yO ?_
      refine yL ?_;refine yO ?_;refine yM ?_;refine yO ?_
      refine yF ?_;refine yO ?_;refine yL ?_;refine yO ?_
      refine yM ?_;refine yO ?_;refine yt ?_;refine yO ?_;refine yT ?_;refine yO ?_;refine yM ?_;refine yO ?_;refine yF ?_
      refine yO ?_;refine yL ?_;refine yO ?_;refine yM ?_
      refine yO ?_;refine yf ?_;refine yO ?_;refine yT ?_;refine yU ?_;refine yM ?_;refine y3 ?_;refine wE_ret ?_
      exact endP_ret hr.log rfl rfl
    ·rw[decide_eq_false (by simp;omega)]
     refine y4 ?_;refine yB ?_;refine yM ?_;refine y3 ?_;refine y4 ?_;refine yF ?_
     refine yL ?_;refine yM ?_
     refine yt ?_;refine yM ?_;refine yO ?_;refine yF ?_;refine yO ?_
     refine yL ?_;refine yO ?_;refine yM ?_;refine yO ?_
     refine yf ?_;refine yT ?_;refine yM ?_;refine yO ?_;refine yF ?_;refine yO ?_
     refine yL ?_;refine yO ?_;refine yM ?_;refine yO ?_
     refine yF ?_;refine yO ?_;refine yL ?_;refine yO ?_
     refine yM ?_;refine yO ?_;refine yf ?_;refine yO ?_;refine yT ?_;refine yO ?_;refine yM ?_;refine yP ?_
     refine yP ?_;refine yP ?_;refine yP ?_;refine yO ?_;refine yU ?_;refine yU ?_;refine yM ?_;refine y3 ?_;refine wE_ret ?_
     exact endP_ret hr.log rfl rfl
 ·cases tu with
  |false=>
   rw[decide_eq_false (by simp;omega)]
   refine y4 ?_;refine yB ?_;refine yM ?_;refine y3 ?_;refine y4 ?_;refine yF ?_
   refine yL ?_;refine yM ?_
   refine yf ?_;refine yM ?_;refine yP ?_;refine yP ?_;refine yP ?_;refine yP ?_;refine yU ?_
   refine yM ?_;refine yO ?_;refine yF ?_;refine yO ?_
   refine yL ?_;refine yO ?_;refine yM ?_
   refine yP ?_;refine yP ?_;refine yP ?_;refine yP ?_;refine yO ?_;refine yU ?_;refine yO ?_;refine yM ?_;refine yP ?_
   refine yP ?_;refine yP ?_;refine yP ?_;refine yO ?_;refine yU ?_;refine yU ?_;refine yM ?_;refine y3 ?_;refine wE_ret ?_
   exact endP_ret hr.log rfl rfl
  |true=>
   by_cases c3:¬kh≠a
   ·by_cases c4:¬kw≠b
    ·rw[decide_eq_true (by simp;omega)]
     refine y4 ?_;refine yB ?_;refine yM ?_;refine y3 ?_;refine y4 ?_;refine yF ?_
     refine yL ?_;refine yM ?_
     refine yf ?_;refine yM ?_;refine yP ?_;refine yP ?_;refine yP ?_;refine yP ?_;refine yU ?_
     refine yM ?_;refine yO ?_;refine yF ?_;refine yO ?_
     refine yL ?_;refine yO ?_;refine yM ?_;refine yO ?_
     refine yF ?_;refine yO ?_;refine yL ?_;refine yO ?_
     refine yM ?_;refine yO ?_;refine yt ?_;refine yO ?_;refine yT ?_;refine yO ?_;refine yM ?_;refine yO ?_;refine yF ?_
     refine yO ?_;refine yL ?_;refine yO ?_;refine yM ?_
     refine yO ?_;refine yt ?_;refine yO ?_;refine yT ?_;refine yU ?_;refine yM ?_;refine y3 ?_;refine wE_ret ?_
     exact endP_ret hr.log rfl rfl
    ·rw[decide_eq_false (by simp;omega)]
     refine y4 ?_;refine yB ?_;refine yM ?_;refine y3 ?_;refine y4 ?_;refine yF ?_
     refine yL ?_;refine yM ?_
     refine yf ?_;refine yM ?_;refine yP ?_;refine yP ?_;refine yP ?_;refine yP ?_;refine yU ?_
     refine yM ?_;refine yO ?_;refine yF ?_;refine yO ?_
     refine yL ?_;refine yO ?_;refine yM ?_;refine yO ?_
     refine yF ?_;refine yO ?_;refine yL ?_;refine yO ?_
     refine yM ?_;refine yO ?_;refine yt ?_;refine yO ?_;refine yT ?_;refine yO ?_;refine yM ?_;refine yO ?_;refine yF ?_
     refine yO ?_;refine yL ?_;refine yO ?_;refine yM ?_
     refine yO ?_;refine yf ?_;refine yO ?_;refine yT ?_;refine yU ?_;refine yM ?_;refine y3 ?_;refine wE_ret ?_
     exact endP_ret hr.log rfl rfl
   ·rw[decide_eq_false (by simp;omega)]
    refine y4 ?_;refine yB ?_;refine yM ?_;refine y3 ?_;refine y4 ?_;refine yF ?_
    refine yL ?_;refine yM ?_
    refine yf ?_;refine yM ?_;refine yP ?_;refine yP ?_;refine yP ?_;refine yP ?_;refine yU ?_
    refine yM ?_;refine yO ?_;refine yF ?_;refine yO ?_
    refine yL ?_;refine yO ?_;refine yM ?_;refine yO ?_
    refine yF ?_;refine yO ?_;refine yL ?_;refine yO ?_
    refine yM ?_;refine yO ?_;refine yf ?_;refine yO ?_;refine yT ?_;refine yO ?_;refine yM ?_;refine yP ?_
    refine yP ?_;refine yP ?_;refine yP ?_;refine yO ?_;refine yU ?_;refine yU ?_;refine yM ?_;refine y3 ?_;refine wE_ret ?_
    exact endP_ret hr.log rfl rfl
end Go.A.Pk
end
section
set_option maxRecDepth 100000
namespace Go.A.Pk
variable {T:Nat→Option AFunc}
theorem V_bd{kerf W:Int}{ws:List Int}{kl:List Kd}(hk:0≤kerf)(hW:0≤W)(hws:∀x∈ws,0≤x∧x≤W)(x y:Nat):0≤V kerf ws kl ((x:Int),(y:Int))∧V kerf ws kl ((x:Int),(y:Int))≤W*((x:Int)*(y:Int)):=by
 refine⟨V_nonneg hk _,?_⟩
 have hU:Bd W (tabL kerf ws kl (boardsL x y)):=tabL_bd hW hk hws _ _ (fun x hx=>by have:=boards_of hx;omega) (fun e he=>by cases he)
 have h1:=look_bd ((x:Int),(y:Int)) hU
 rw[tab_V hk ((x:Int),(y:Int)) (fun _=>⟨Int.le_refl _,Int.le_refl _⟩)]at h1
 rcases h1 with h1|h1
 ·rw[h1];exact Int.mul_nonneg hW (Int.mul_nonneg (by omega) (by omega))
 ·exact h1.2.2.2
theorem a_max0{base:Nat}{h:Heap}{e:Env}{x y:Operand}{z:Int}{r:Nat}(hx:ev h e x=some (.int .i64 0))(hy:ev h e y=some (.int .i64 z))(hr:mx 0 z=r):aop h base e (.minmax true [x,y])=some (.val (.int .i64 (r:Int)) h):=by
 rw[←hr];exact a_max hx hy
structure Vt (q:Nat) (hA h':Heap) (f:Nat→Nat→Int):Prop where
 old:∀z,z<q→h'.get z=hA.get z
 obj:h'.get q=some (.cells (ints (grid f)) true 1)
 log:h'.log=[]
 wf:WF h'
 nx:q<h'.next
theorem Vt.wr{q:Nat}{hA h':Heap}{f:Nat→Nat→Int}(v:Vt q hA h' f){base a b:Nat}(z:Int)(hb:base≤q):Vt q hA (h'.wr base q (.cells (ints (grid (updF f a b z))) true 1)) (updF f a b z):=
 ⟨fun y hy=>(z5 (by omega)).trans (v.old y hy),Heap.get_wr_new v.obj,(Heap.log_wr_new hb).trans v.log,v.wf.as (AS.wr _ _ _ _),v.nx⟩
theorem Vt.congr{q:Nat}{hA h':Heap}{f g:Nat→Nat→Int}(v:Vt q hA h' f)(h:∀x y,x<17→y<17→f x y=g x y):Vt q hA h' g:=
 ⟨v.old,by rw[←grid_congr h];exact v.obj,v.log,v.wf,v.nx⟩
def doneF(g:Nat→Nat→Int)(a b x y:Nat):Int:=if x<a∨(x=a∧y<b)then g x y else 0
def Vf(kerf:Int)(ws:List Int)(kl:List Kd)(x y:Nat):Int:=V kerf ws kl ((x:Int),(y:Int))
theorem updF_self(f:Nat→Nat→Int)(a b:Nat)(z:Int):updF f a b z a b=z:=by unfold updF;rw[if_pos ⟨rfl,rfl⟩]
theorem updF_upd(f:Nat→Nat→Int)(a b:Nat)(z u:Int):updF (updF f a b z) a b u=updF f a b u:=by
 funext x y;unfold updF;split<;>rfl
theorem updF_left{g:Nat→Nat→Int}{a b n:Nat}(z:Int)(hn:n<a):updF (doneF g a b) a b z n b=g n b:=by
 unfold updF doneF;rw[if_neg (by omega),if_pos (by omega)]
theorem updF_up{g:Nat→Nat→Int}{a b n:Nat}(z:Int)(hn:n<b):updF (doneF g a b) a b z a n=g a n:=by
 unfold updF doneF;rw[if_neg (by omega),if_pos (by omega)]
theorem doneF_next{g:Nat→Nat→Int}{a b:Nat}:updF (doneF g a b) a b (g a b)=doneF g a (b+1):=by
 funext x y
 unfold updF doneF
 by_cases h:x=a∧y=b
 ·rw[if_pos h,if_pos (by omega),h.1,h.2]
 ·rw[if_neg h]
  by_cases h2:x<a∨(x=a∧y<b)
  ·rw[if_pos h2,if_pos (by omega)]
  ·rw[if_neg h2,if_neg (by omega)]
theorem leafM_kind{ws:List Int}{l:List Kd}{i a b:Nat}{k:Kd}(hk:l[i]? =some k)(m:Int):leafM ws (leavesL a b (l.take (i+1)) 0) m=if plankB k a b=true then mx (leafM ws (leavesL a b (l.take i) 0) m) (ws.getD i 0)else leafM ws (leavesL a b (l.take i) 0) m:=by
 rw[leaves_succ hk]
 unfold leafM
 rw[List.foldl_append]
 generalize List.foldl (fun m x=>mx m (ws.getD x.2 0)) m (leavesL a b (l.take i) 0)=u
 have hm:∀u w:Int,mx (mx u w) w=mx u w:=fun u w=>by
  unfold mx
  by_cases h:w>u
  ·rw[if_pos h,if_neg (by omega)]
  ·rw[if_neg h,if_neg h]
 unfold leafAt plankB
 by_cases h1:(a:Int)=k.w∧(b:Int)=k.h
 ·by_cases h2:k.turn=true∧(a:Int)=k.h∧(b:Int)=k.w
  ·rw[if_pos h1,if_pos h2,if_pos (by simp;omega)]
   show mx (mx u (ws.getD i 0)) (ws.getD i 0)=_
   exact hm _ _
  ·rw[if_pos h1,if_neg h2,if_pos (by simp;omega)];rfl
 ·by_cases h2:k.turn=true∧(a:Int)=k.h∧(b:Int)=k.w
  ·rw[if_neg h1,if_pos h2,if_pos (by simp only[decide_eq_true_eq];exact .inr ⟨h2.1,h2.2.1.symm,h2.2.2.symm⟩)];rfl
  ·rw[if_neg h1,if_neg h2,if_neg (by simp only[decide_eq_true_eq];rintro(q|q);exact h1 ⟨q.1.symm,q.2.symm⟩;exact h2 ⟨q.1,q.2.1.symm,q.2.2.symm⟩)];rfl
theorem foldM_row{f:Nat×Nat→Int}{c n:Nat}{m:Int}:foldM f (row c (n+1)) m=mx (foldM f (row c n) m) (f (c,n+1)):=by
 rw[row_succ];unfold foldM;rw[List.foldl_append];rfl
theorem cut_left{kerf:Int}{ws:List Int}{kl:List Kd}{a b n r:Nat}(hn:n≤a)(hr:mx 0 ((a:Int)-n-kerf)=r):V kerf ws kl (oneB (3,n) a b)+V kerf ws kl (twoB kerf (3,n) a b)=Vf kerf ws kl n b+Vf kerf ws kl r b:=by
 unfold oneB twoB Vf
 simp only[if_true]
 congr 1
 unfold mx at hr
 split at hr
 ·rw[hr]
 ·rw[V_out (by simp;omega),V_out (by simp;omega)]
theorem cut_up{kerf:Int}{ws:List Int}{kl:List Kd}{a b n r:Nat}(hn:n≤b)(hr:mx 0 ((b:Int)-n-kerf)=r):V kerf ws kl (oneB (4,n) a b)+V kerf ws kl (twoB kerf (4,n) a b)=Vf kerf ws kl a n+Vf kerf ws kl a r:=by
 unfold oneB twoB Vf
 simp only[show¬ (4:Nat)=3 by omega,if_false]
 congr 1
 unfold mx at hr
 split at hr
 ·rw[hr]
 ·rw[V_out (by simp;omega),V_out (by simp;omega)]
theorem ws_at{l:List Kd}{i:Nat}{k:Kd}(h:l[i]? =some k):(wsOf l).getD i 0=k.worth:=by simp[wsOf,List.getD,h]
structure FnsRB (T:Nat→Option AFunc):Prop where
 p:primAS T
 f93:T 93=some f93
 f112:T 112=some f112
theorem scalL_ints:∀xs:List Int,scalL (ints xs)=true
 |[]=>rfl
 |x::xs=>scalL_ints xs
theorem ones_ints:∀xs:List Int,ones (ints xs)=true
 |[]=>rfl
 |x::xs=>ones_ints xs
set_option maxHeartbeats 16000000 in
theorem rbest93(F:FnsRB T){h:Heap}(hr:Rdy h){a0:Option Addr}{n c:Nat}{l:List Kd}{kerf W:Int}(hs:SliceOf h 5 (.slice a0 n c) n (kcs l))(hn:n<1000)(hk:0≤kerf∧kerf≤100)(hW:0≤W∧W≤1000000000)(hws:∀x∈wsOf l,0≤x∧x≤W):
 Pu T 93 [.agg #[.slice a0 n c, .int .i64 kerf]] h (.agg (ints (grid (Vf kerf (wsOf l) l))).toArray):=by
 refine .of F.p F.f93 hr (scalL_ints _) ?_
 obtain rfl:n=l.length:=by have:=hs.len;rw[kcs_length]at this;omega
 have hVb:∀x y:Nat,x≤16→y≤16→0≤Vf kerf (wsOf l) l x y∧Vf kerf (wsOf l) l x y≤256000000000:=fun x y hx hy=>by
  have h1:=V_bd (kl:=l) hk.1 hW.1 hws x y
  have h2:=area_mono (W:=W) (a:=x) (b:=y) (c:=16) (d:=16) hW.1 (by omega) (by omega) (by omega) (by omega)
  unfold Vf
  refine⟨h1.1,?_⟩
  omega
 generalize hG:Vf kerf (wsOf l) l=G at*
 refine y4 ?_;refine yB ?_;refine wO_val a_new ?_;refine y3 ?_;refine y4 ?_;refine wO_val a_new ?_;refine y3 ?_;refine wE_seq ?_;refine y4 ?_;refine yM ?_;refine y3 ?_;refine wE_block ?_
 refine WE.gen ?_
 intro hA hAe
 have A1:hA.get h.next=some (.cells [.slice a0 l.length c, .int .i64 kerf] true 1):=by rw[hAe];(simp(disch:=first|omega|(simp only[z1,z2];omega))only[z3,z4,z5,z6,z7,z1,z2, *];exact rfl)
 have A2:hA.get (h.next+1)=some (.cells (ints (grid fun _ _=>0)) true 1):=by rw[hAe,←grid_zero];(simp(disch:=first|omega|(simp only[z1,z2];omega)|(simp only[z1,z2];done)|fail)only[z8,z4,z5,z9,z7,z1,z2, *];done)
 have A3:hA.get (h.next+2)=some (.cells (ints (grid fun _ _=>0)) true 1):=by rw[hAe,←grid_zero];(simp(disch:=first|omega|(simp only[z1,z2];omega)|(simp only[z1,z2];done)|fail)only[z8,z4,z5,z9,z7,z1,z2, *];done)
 have A0:∀z,z<h.next→hA.get z=h.get z:=fun z hz=>by rw[hAe];simp(disch:=first|omega|(simp only[z1,z2];omega))only[z5,z4]
 have A5:hA.next=h.next+3:=by rw[hAe];rfl
 have A6:hA.log=[]:=by rw[hAe];exact hr.log
 have A7:WF hA:=by rw[hAe];exact((hr.wf.push _).push _).push _
 clear hAe
 refine wE_loop (fun m e ds h'=>∃a:Nat,1≤a∧a≤17∧m=17-a∧e=[(1, .pointer (some ⟨h.next,0,none⟩)),(2, .pointer (some ⟨h.next+1,0,none⟩)),(3, .pointer (some ⟨h.next+2,0,none⟩)),(4, .int .i64 a)]∧ds=[]∧Vt (h.next+2) hA h' (doneF G a 1))
  ⟨1,by omega,by omega,rfl,rfl,rfl,⟨fun _ _=>rfl,by rw[A3];refine congrArg (fun q=>some (AObj.cells (ints q) true 1)) (grid_congr fun x y hx hy=> ?_);unfold doneF;split;rw[←hG];unfold Vf;rw[V_out (by simp;omega)];rfl,A6,A7,by omega⟩⟩ ?_
 rintro m e ds h4 ⟨a,ha1,ha2,rfl,rfl,rfl,w4⟩
 by_cases hlt4:a<17
 ·refine wE_seq ?_;refine y4 ?_;refine yM ?_;refine yt ?_;refine y3 ?_;refine yY ?_;refine wE_skip ?_;refine kS_n ?_
  refine wE_seq ?_;refine wE_block ?_;refine y4 ?_;refine yM ?_;refine y3 ?_;refine wE_block ?_
  refine wE_loop (fun m e ds h'=>∃b:Nat,1≤b∧b≤17∧m=17-b∧e=[(1, .pointer (some ⟨h.next,0,none⟩)),(2, .pointer (some ⟨h.next+1,0,none⟩)),(3, .pointer (some ⟨h.next+2,0,none⟩)),(4, .int .i64 a),(5, .int .i64 b)]∧ds=[]∧Vt (h.next+2) hA h' (doneF G a b))
   ⟨1,by omega,by omega,rfl,rfl,rfl,w4⟩ ?_
  rintro m e ds h5 ⟨b,hb1,hb2,rfl,rfl,rfl,w5⟩
  by_cases hlt5:b<17
  ·refine wE_seq ?_;refine y4 ?_;refine yM ?_;refine yt ?_;refine y3 ?_;refine yY ?_;refine wE_skip ?_;refine kS_n ?_
   refine wE_seq ?_;refine wE_block ?_;refine wE_seq ?_;refine y4 ?_;refine yM ?_;refine y3 ?_;refine wE_block ?_
   refine wE_loop (fun m e ds h'=>∃i:Nat,i≤l.length∧m=l.length-i∧e=[(1, .pointer (some ⟨h.next,0,none⟩)),(2, .pointer (some ⟨h.next+1,0,none⟩)),(3, .pointer (some ⟨h.next+2,0,none⟩)),(4, .int .i64 a),(5, .int .i64 b),(6, .int .i64 i)]∧ds=[]∧Vt (h.next+2) hA h' (updF (doneF G a b) a b (leafM (wsOf l) (leavesL a b (l.take i) 0) 0)))
    ⟨0,by omega,rfl,rfl,rfl,w5.congr fun x y _ _=>by
     unfold updF doneF
     by_cases q:x=a∧y=b
     ·rw[if_pos q,if_neg (by omega)];rfl
     ·rw[if_neg q]⟩ ?_
   rintro m e ds h6 ⟨i,hin,rfl,rfl,rfl,w6⟩
   have g3:=w6.obj
   have g1:=(w6.old h.next (by omega)).trans A1
   have k3:=w6.nx
   by_cases hlt6:i<l.length
   ·obtain⟨x,hxl⟩:∃x,l[i]? =some x:=⟨l[i],List.getElem?_eq_getElem hlt6⟩
    have hstep:=leafM_kind (ws:=wsOf l) (a:=a) (b:=b) hxl 0
    rw[ws_at hxl]at hstep
    rcases hs.inv with⟨_,_,h0,_⟩|⟨b0,o0,cap,hv,sl,hcap⟩
    ·omega
    cases hv
    obtain⟨vs,own,t0,g5,g6⟩:=slice_elem sl hxl
    have kb0:=WF.get_lt hr.wf g5
    have gs:=(w6.old b0 (by omega)).trans ((A0 b0 kb0).trans g5)
    have e3:lget vs (o0+i*5+3)=some (.int .i64 x.worth):=elem_get g6 3 (by omega)
    have c1:=grid_get (f:=updF (doneF G a b) a b (leafM (wsOf l) (leavesL a b (l.take i) 0) 0)) (a:=a) (b:=b) (by omega) (by omega)
    rw[updF_self]at c1
    generalize hP:leafM (wsOf l) (leavesL a b (l.take i) 0) 0=P at*
    refine wE_seq ?_;refine y4 ?_;refine yM ?_;refine yF ?_;refine yL ?_;refine yD ?_;refine yt ?_;refine y3 ?_;refine yY ?_;refine wE_skip ?_;refine kS_n ?_;refine wE_seq ?_;refine wE_block ?_;refine y4 ?_;refine yF ?_;refine yL ?_
    refine yM ?_;refine wO_val (a_iaddrS (by exact rfl) (by exact rfl) (by omega)) ?_
    refine wO_val (a_loadN (by exact rfl) gs g6 (by exact rfl)) ?_
    refine yM ?_;refine yM ?_
    refine yC ?_
    refine FW.pu (plank112 F.p F.f112 (.of w6.wf) x a b) ?_
    cases hpl:plankB x a b with
    |true=>
     rw[hpl,if_pos rfl]at hstep
     refine y3 ?_;refine yY ?_;refine wE_draw ?_;refine qM ?_;refine qM ?_
     refine qM ?_;refine qM ?_;refine wD_quiet rfl rfl rfl (by exact rfl) (by exact rfl) (by exact rfl) (a_iaddrA (by exact rfl) (by exact rfl) (by omega)) ?_
     refine wD_quiet rfl rfl rfl (by exact rfl) (by exact rfl) (by exact rfl) (a_iaddrA (by exact rfl) (by exact rfl) (by omega)) ?_;refine wD_quiet rfl rfl rfl (by exact rfl) (by exact rfl) (by exact rfl) (a_load (by exact rfl) (by assumption) (by assumption)) ?_;refine qF ?_
     refine qL ?_;refine qM ?_;refine wD_quiet rfl rfl rfl (by exact rfl) (by exact rfl) (by exact rfl) (a_iaddrS (by exact rfl) (by exact rfl) (by omega)) ?_
     refine qF ?_;refine wD_quiet rfl rfl rfl (by exact rfl) (by exact rfl) (by exact rfl) (a_load (by exact rfl) (by assumption) (by assumption)) ?_
     refine wD_quiet rfl rfl rfl (by exact rfl) (by exact rfl) (by exact rfl) (a_max (by exact rfl) (by exact rfl)) ?_
     refine wD_quiet rfl rfl rfl (by exact rfl) (by exact rfl) (by exact rfl) (a_iaddrA (by exact rfl) (by exact rfl) (by omega)) ?_;refine wD_quiet rfl rfl rfl (by exact rfl) (by exact rfl) (by exact rfl) (a_iaddrA (by exact rfl) (by exact rfl) (by omega)) ?_
     refine wD_store (ws:=ints (grid (updF (updF (doneF G a b) a b P) a b (mx P x.worth)))) rfl rfl rfl (by exact rfl) (by exact rfl) (by exact rfl) (by assumption) (grid_st (by omega) (by omega)) (grid_put (by omega) _) (by omega) (by omega) (by apply ra_dropC rfl;apply ra_dropC rfl;apply ra_dropC rfl;apply ra_dropC rfl;apply ra_dropC rfl;apply ra_dropC rfl;apply ra_dropC rfl;apply ra_dropC rfl;apply ra_dropC rfl;apply ra_dropC rfl;apply ra_dropC rfl;apply ra_dropC rfl;apply ra_dropC rfl;apply ra_dropC rfl;apply ra_dropC rfl;apply ra_dropC rfl;exact ra_nil) ?_
     refine wD_nil ?_;refine y1 ?_;refine kB_n ?_;refine kS_n ?_;refine wE_region ?_;refine yM ?_;refine yinc ?_;refine yM ?_;refine y3 ?_
     refine⟨l.length-(i+1),by omega,i+1,by omega,rfl,rfl,rfl,?_⟩
     have:=w6.wr (base:=h.next) (a:=a) (b:=b) (mx P x.worth) (by omega)
     rw[hstep]
     rw[updF_upd]at this⊢
     exact this
    |false=>
     rw[hpl,if_neg Bool.false_ne_true]at hstep
     refine y3 ?_;refine yX ?_;refine wE_skip ?_;refine kB_n ?_;refine kS_n ?_;refine wE_region ?_;refine yM ?_;refine yinc ?_
     refine yM ?_;refine y3 ?_
     refine⟨l.length-(i+1),by omega,i+1,by omega,rfl,rfl,rfl,?_⟩
     rw[hstep]
     exact w6
   ·obtain rfl:i=l.length:=by omega
    rw[List.take_of_length_le (Nat.le_refl _)]at w6
    generalize hM0:leafM (wsOf l) (leavesL a b l 0) 0=M0 at*
    have v7:=w6
    refine wE_seq ?_;refine y4 ?_;refine yM ?_;refine yF ?_;refine yL ?_;refine yD ?_;refine yf ?_;refine y3 ?_;refine yX ?_;refine wE_exit ?_;refine kS_e ?_;refine kS_e ?_;refine kB_e ?_;refine kS_n ?_;refine wE_seq ?_;refine y4 ?_;refine yM ?_;refine y3 ?_;refine wE_block ?_
    refine wE_loop (fun m e ds h'=>∃n:Nat,n+1≤a∧m=a-n∧e=[(1, .pointer (some ⟨h.next,0,none⟩)),(2, .pointer (some ⟨h.next+1,0,none⟩)),(3, .pointer (some ⟨h.next+2,0,none⟩)),(4, .int .i64 a),(5, .int .i64 b),(7, .int .i64 (n+1:Nat))]∧ds=[]∧Vt (h.next+2) hA h' (updF (doneF G a b) a b (foldM (fun x=>V kerf (wsOf l) l (oneB x a b)+V kerf (wsOf l) l (twoB kerf x a b)) (row 3 n) M0)))
     ⟨0,by omega,rfl,rfl,rfl,by simpa[row,foldM]using v7⟩ ?_
    rintro m e ds h7 ⟨n,hn2,rfl,rfl,rfl,w7⟩
    have g3:=w7.obj
    have g1:=(w7.old h.next (by omega)).trans A1
    have k3:=w7.nx
    by_cases hlt7:n+1<a
    ·obtain⟨r,hr1⟩:∃r:Nat,mx 0 ((a:Int)-(n+1:Nat)-kerf)=r:=by
      have:0≤mx 0 ((a:Int)-(n+1:Nat)-kerf):=mx_ge.1
      exact⟨_,(Int.toNat_of_nonneg this).symm⟩
     have hrl:r<a:=by unfold mx at hr1;split at hr1<;>omega
     have c1:=grid_get (f:=updF (doneF G a b) a b (foldM (fun x=>V kerf (wsOf l) l (oneB x a b)+V kerf (wsOf l) l (twoB kerf x a b)) (row 3 n) M0)) (a:=a) (b:=b) (by omega) (by omega)
     have c2:=grid_get (f:=updF (doneF G a b) a b (foldM (fun x=>V kerf (wsOf l) l (oneB x a b)+V kerf (wsOf l) l (twoB kerf x a b)) (row 3 n) M0)) (a:=n+1) (b:=b) (by omega) (by omega)
     have c3:=grid_get (f:=updF (doneF G a b) a b (foldM (fun x=>V kerf (wsOf l) l (oneB x a b)+V kerf (wsOf l) l (twoB kerf x a b)) (row 3 n) M0)) (a:=r) (b:=b) (by omega) (by omega)
     rw[updF_self]at c1
     rw[updF_left _ (by omega)]at c2 c3
     have hcut:=cut_left (ws:=wsOf l) (kl:=l) (a:=a) (b:=b) (n:=n+1) (r:=r) (kerf:=kerf) (by omega) hr1
     rw[hG]at hcut
     have hb2:=hVb (n+1) b (by omega) (by omega)
     have hb3:=hVb r b (by omega) (by omega)
     have hnext:mx (foldM (fun x=>V kerf (wsOf l) l (oneB x a b)+V kerf (wsOf l) l (twoB kerf x a b)) (row 3 n) M0) (G (n+1) b+G r b)=(foldM (fun x=>V kerf (wsOf l) l (oneB x a b)+V kerf (wsOf l) l (twoB kerf x a b)) (row 3 (n+1)) M0):=by rw[foldM_row,hcut]
     generalize hP:(foldM (fun x=>V kerf (wsOf l) l (oneB x a b)+V kerf (wsOf l) l (twoB kerf x a b)) (row 3 n) M0)=P at*
     refine wE_seq ?_;refine y4 ?_;refine yM ?_;refine yM ?_;refine yt ?_;refine y3 ?_;refine yY ?_
     refine wE_skip ?_;refine kS_n ?_;refine wE_seq ?_;refine wE_block ?_;refine wE_draw ?_;refine qM ?_;refine qM ?_;refine qM ?_
     refine qM ?_;refine wD_quiet rfl rfl rfl (by exact rfl) (by exact rfl) (by exact rfl) (a_iaddrA (by exact rfl) (by exact rfl) (by omega)) ?_;refine wD_quiet rfl rfl rfl (by exact rfl) (by exact rfl) (by exact rfl) (a_iaddrA (by exact rfl) (by exact rfl) (by omega)) ?_
     refine wD_quiet rfl rfl rfl (by exact rfl) (by exact rfl) (by exact rfl) (a_load (by exact rfl) (by assumption) (by assumption)) ?_;refine qM ?_;refine qM ?_
     refine wD_quiet rfl rfl rfl (by exact rfl) (by exact rfl) (by exact rfl) (a_iaddrA (by exact rfl) (by exact rfl) (by omega)) ?_;refine wD_quiet rfl rfl rfl (by exact rfl) (by exact rfl) (by exact rfl) (a_iaddrA (by exact rfl) (by exact rfl) (by omega)) ?_;refine wD_quiet rfl rfl rfl (by exact rfl) (by exact rfl) (by exact rfl) (a_load (by exact rfl) (by assumption) (by assumption)) ?_
     refine qM ?_;refine qM ?_;refine wD_quiet rfl rfl rfl (by exact rfl) (by exact rfl) (by exact rfl) (a_num (by exact rfl) (by exact rfl) (by exact m_sub (wrapA_i64 (by omega) (by omega)))) ?_
     refine qF ?_;refine qL ?_;refine wD_quiet rfl rfl rfl (by exact rfl) (by exact rfl) (by exact rfl) (a_num (by exact rfl) (by exact rfl) (by exact m_sub (wrapA_i64 (by omega) (by omega)))) ?_
     refine wD_quiet rfl rfl rfl (by exact rfl) (by exact rfl) (by exact rfl) (a_max0 (by exact rfl) (by exact rfl) hr1) ?_
     refine qM ?_;refine wD_quiet rfl rfl rfl (by exact rfl) (by exact rfl) (by exact rfl) (a_iaddrA (by exact rfl) (by exact rfl) (by omega)) ?_;refine wD_quiet rfl rfl rfl (by exact rfl) (by exact rfl) (by exact rfl) (a_iaddrA (by exact rfl) (by exact rfl) (by omega)) ?_
     refine wD_quiet rfl rfl rfl (by exact rfl) (by exact rfl) (by exact rfl) (a_load (by exact rfl) (by assumption) (by assumption)) ?_;refine wD_quiet rfl rfl rfl (by exact rfl) (by exact rfl) (by exact rfl) (a_num (by exact rfl) (by exact rfl) (by exact m_add (wrapA_i64 (by omega) (by omega)))) ?_
     refine wD_quiet rfl rfl rfl (by exact rfl) (by exact rfl) (by exact rfl) (a_max (by exact rfl) (by exact rfl)) ?_
     refine wD_quiet rfl rfl rfl (by exact rfl) (by exact rfl) (by exact rfl) (a_iaddrA (by exact rfl) (by exact rfl) (by omega)) ?_;refine wD_quiet rfl rfl rfl (by exact rfl) (by exact rfl) (by exact rfl) (a_iaddrA (by exact rfl) (by exact rfl) (by omega)) ?_
     refine wD_store (ws:=ints (grid (updF (updF (doneF G a b) a b P) a b (mx P (G (n+1) b+G r b))))) rfl rfl rfl (by exact rfl) (by exact rfl) (by exact rfl) (by assumption) (grid_st (by omega) (by omega)) (grid_put (by omega) _) (by omega) (by omega) (by apply ra_dropC rfl;apply ra_dropC rfl;apply ra_dropC rfl;apply ra_dropC rfl;apply ra_dropC rfl;apply ra_dropC rfl;apply ra_dropC rfl;apply ra_dropC rfl;apply ra_dropC rfl;apply ra_dropC rfl;apply ra_dropC rfl;apply ra_dropC rfl;apply ra_dropC rfl;apply ra_dropC rfl;apply ra_dropC rfl;apply ra_dropC rfl;apply ra_dropC rfl;apply ra_dropC rfl;apply ra_dropC rfl;apply ra_dropC rfl;apply ra_dropC rfl;apply ra_dropC rfl;apply ra_dropC rfl;apply ra_dropC rfl;apply ra_dropC rfl;apply ra_dropC rfl;apply ra_dropC rfl;exact ra_nil) ?_
     refine wD_nil ?_;refine y1 ?_;refine kB_n ?_;refine kS_n ?_;refine wE_region ?_;refine yM ?_;refine yinc ?_;refine yM ?_;refine y3 ?_
     refine⟨a-(n+1),by omega,n+1,by omega,rfl,rfl,rfl,?_⟩
     have:=w7.wr (base:=h.next) (a:=a) (b:=b) (mx P (G (n+1) b+G r b)) (by omega)
     rw[←hnext]
     rw[updF_upd]at this⊢
     exact this
    ·obtain rfl:n=a-1:=by omega
     generalize hM1:foldM (fun x=>V kerf (wsOf l) l (oneB x a b)+V kerf (wsOf l) l (twoB kerf x a b)) (row 3 (a-1)) M0=M1 at*
     have v8:=w7
     refine wE_seq ?_;refine y4 ?_;refine yM ?_;refine yM ?_;refine yf ?_;refine y3 ?_;refine yX ?_
     refine wE_exit ?_;refine kS_e ?_;refine kS_e ?_;refine kB_e ?_;refine kS_n ?_;refine y4 ?_;refine yM ?_;refine y3 ?_;refine wE_block ?_
     refine wE_loop (fun m e ds h'=>∃n:Nat,n+1≤b∧m=b-n∧e=[(1, .pointer (some ⟨h.next,0,none⟩)),(2, .pointer (some ⟨h.next+1,0,none⟩)),(3, .pointer (some ⟨h.next+2,0,none⟩)),(4, .int .i64 a),(5, .int .i64 b),(8, .int .i64 (n+1:Nat))]∧ds=[]∧Vt (h.next+2) hA h' (updF (doneF G a b) a b (foldM (fun x=>V kerf (wsOf l) l (oneB x a b)+V kerf (wsOf l) l (twoB kerf x a b)) (row 4 n) M1)))
      ⟨0,by omega,rfl,rfl,rfl,by simpa[row,foldM]using v8⟩ ?_
     rintro m e ds h8 ⟨n,hn2,rfl,rfl,rfl,w8⟩
     have g3:=w8.obj
     have g1:=(w8.old h.next (by omega)).trans A1
     have k3:=w8.nx
     by_cases hlt8:n+1<b
     ·obtain⟨r,hr1⟩:∃r:Nat,mx 0 ((b:Int)-(n+1:Nat)-kerf)=r:=by
       have:0≤mx 0 ((b:Int)-(n+1:Nat)-kerf):=mx_ge.1
       exact⟨_,(Int.toNat_of_nonneg this).symm⟩
      have hrl:r<b:=by unfold mx at hr1;split at hr1<;>omega
      have c1:=grid_get (f:=updF (doneF G a b) a b (foldM (fun x=>V kerf (wsOf l) l (oneB x a b)+V kerf (wsOf l) l (twoB kerf x a b)) (row 4 n) M1)) (a:=a) (b:=b) (by omega) (by omega)
      have c2:=grid_get (f:=updF (doneF G a b) a b (foldM (fun x=>V kerf (wsOf l) l (oneB x a b)+V kerf (wsOf l) l (twoB kerf x a b)) (row 4 n) M1)) (a:=a) (b:=n+1) (by omega) (by omega)
      have c3:=grid_get (f:=updF (doneF G a b) a b (foldM (fun x=>V kerf (wsOf l) l (oneB x a b)+V kerf (wsOf l) l (twoB kerf x a b)) (row 4 n) M1)) (a:=a) (b:=r) (by omega) (by omega)
      rw[updF_self]at c1
      rw[updF_up _ (by omega)]at c2 c3
      have hcut:=cut_up (ws:=wsOf l) (kl:=l) (a:=a) (b:=b) (n:=n+1) (r:=r) (kerf:=kerf) (by omega) hr1
      rw[hG]at hcut
      have hb2:=hVb a (n+1) (by omega) (by omega)
      have hb3:=hVb a r (by omega) (by omega)
      have hnext:mx (foldM (fun x=>V kerf (wsOf l) l (oneB x a b)+V kerf (wsOf l) l (twoB kerf x a b)) (row 4 n) M1) (G a (n+1)+G a r)=(foldM (fun x=>V kerf (wsOf l) l (oneB x a b)+V kerf (wsOf l) l (twoB kerf x a b)) (row 4 (n+1)) M1):=by rw[foldM_row,hcut]
      generalize hP:(foldM (fun x=>V kerf (wsOf l) l (oneB x a b)+V kerf (wsOf l) l (twoB kerf x a b)) (row 4 n) M1)=P at*
      refine wE_seq ?_;refine y4 ?_;refine yM ?_;refine yM ?_;refine yt ?_;refine y3 ?_;refine yY ?_
      refine wE_skip ?_;refine kS_n ?_;refine wE_seq ?_;refine wE_block ?_;refine wE_draw ?_;refine qM ?_;refine qM ?_;refine qM ?_
      refine qM ?_;refine wD_quiet rfl rfl rfl (by exact rfl) (by exact rfl) (by exact rfl) (a_iaddrA (by exact rfl) (by exact rfl) (by omega)) ?_;refine wD_quiet rfl rfl rfl (by exact rfl) (by exact rfl) (by exact rfl) (a_iaddrA (by exact rfl) (by exact rfl) (by omega)) ?_
      refine wD_quiet rfl rfl rfl (by exact rfl) (by exact rfl) (by exact rfl) (a_load (by exact rfl) (by assumption) (by assumption)) ?_;refine qM ?_;refine qM ?_
      refine wD_quiet rfl rfl rfl (by exact rfl) (by exact rfl) (by exact rfl) (a_iaddrA (by exact rfl) (by exact rfl) (by omega)) ?_;refine wD_quiet rfl rfl rfl (by exact rfl) (by exact rfl) (by exact rfl) (a_iaddrA (by exact rfl) (by exact rfl) (by omega)) ?_;refine wD_quiet rfl rfl rfl (by exact rfl) (by exact rfl) (by exact rfl) (a_load (by exact rfl) (by assumption) (by assumption)) ?_
      refine qM ?_;refine qM ?_;refine qM ?_
      refine wD_quiet rfl rfl rfl (by exact rfl) (by exact rfl) (by exact rfl) (a_num (by exact rfl) (by exact rfl) (by exact m_sub (wrapA_i64 (by omega) (by omega)))) ?_;refine qF ?_;refine qL ?_
      refine wD_quiet rfl rfl rfl (by exact rfl) (by exact rfl) (by exact rfl) (a_num (by exact rfl) (by exact rfl) (by exact m_sub (wrapA_i64 (by omega) (by omega)))) ?_
      refine wD_quiet rfl rfl rfl (by exact rfl) (by exact rfl) (by exact rfl) (a_max0 (by exact rfl) (by exact rfl) hr1) ?_
      refine wD_quiet rfl rfl rfl (by exact rfl) (by exact rfl) (by exact rfl) (a_iaddrA (by exact rfl) (by exact rfl) (by omega)) ?_;refine wD_quiet rfl rfl rfl (by exact rfl) (by exact rfl) (by exact rfl) (a_iaddrA (by exact rfl) (by exact rfl) (by omega)) ?_;refine wD_quiet rfl rfl rfl (by exact rfl) (by exact rfl) (by exact rfl) (a_load (by exact rfl) (by assumption) (by assumption)) ?_
      refine wD_quiet rfl rfl rfl (by exact rfl) (by exact rfl) (by exact rfl) (a_num (by exact rfl) (by exact rfl) (by exact m_add (wrapA_i64 (by omega) (by omega)))) ?_
      refine wD_quiet rfl rfl rfl (by exact rfl) (by exact rfl) (by exact rfl) (a_max (by exact rfl) (by exact rfl)) ?_
      refine wD_quiet rfl rfl rfl (by exact rfl) (by exact rfl) (by exact rfl) (a_iaddrA (by exact rfl) (by exact rfl) (by omega)) ?_;refine wD_quiet rfl rfl rfl (by exact rfl) (by exact rfl) (by exact rfl) (a_iaddrA (by exact rfl) (by exact rfl) (by omega)) ?_
      refine wD_store (ws:=ints (grid (updF (updF (doneF G a b) a b P) a b (mx P (G a (n+1)+G a r))))) rfl rfl rfl (by exact rfl) (by exact rfl) (by exact rfl) (by assumption) (grid_st (by omega) (by omega)) (grid_put (by omega) _) (by omega) (by omega) (by apply ra_dropC rfl;apply ra_dropC rfl;apply ra_dropC rfl;apply ra_dropC rfl;apply ra_dropC rfl;apply ra_dropC rfl;apply ra_dropC rfl;apply ra_dropC rfl;apply ra_dropC rfl;apply ra_dropC rfl;apply ra_dropC rfl;apply ra_dropC rfl;apply ra_dropC rfl;apply ra_dropC rfl;apply ra_dropC rfl;apply ra_dropC rfl;apply ra_dropC rfl;apply ra_dropC rfl;apply ra_dropC rfl;apply ra_dropC rfl;apply ra_dropC rfl;apply ra_dropC rfl;apply ra_dropC rfl;apply ra_dropC rfl;apply ra_dropC rfl;apply ra_dropC rfl;apply ra_dropC rfl;exact ra_nil) ?_
      refine wD_nil ?_;refine y1 ?_;refine kB_n ?_;refine kS_n ?_;refine wE_region ?_;refine yM ?_;refine yinc ?_;refine yM ?_;refine y3 ?_
      refine⟨b-(n+1),by omega,n+1,by omega,rfl,rfl,rfl,?_⟩
      have:=w8.wr (base:=h.next) (a:=a) (b:=b) (mx P (G a (n+1)+G a r)) (by omega)
      rw[←hnext]
      rw[updF_upd]at this⊢
      exact this
     ·obtain rfl:n=b-1:=by omega
      have hval:foldM (fun x=>V kerf (wsOf l) l (oneB x a b)+V kerf (wsOf l) l (twoB kerf x a b)) (row 4 (b-1)) M1=G a b:=by
       rw[←hG]
       unfold Vf
       rw[V_eq hk.1 ha1 hb1,hM0,←hM1]
       unfold cutsL foldM
       rw[List.foldl_append]
      rw[hval,doneF_next]at w8
      refine wE_seq ?_;refine y4 ?_;refine yM ?_;refine yM ?_;refine yf ?_;refine y3 ?_;refine yX ?_
      refine wE_exit ?_;refine kS_e ?_;refine kS_e ?_;refine kB_e ?_;refine kB_n ?_;refine kS_n ?_;refine wE_region ?_;refine yM ?_;refine yinc ?_;refine yM ?_;refine y3 ?_
      exact⟨17-(b+1),by omega,b+1,by omega,by omega,rfl,rfl,rfl,w8⟩
  ·obtain rfl:b=17:=by omega
   refine wE_seq ?_;refine y4 ?_;refine yM ?_;refine yf ?_;refine y3 ?_;refine yX ?_;refine wE_exit ?_;refine kS_e ?_
   refine kS_e ?_;refine kB_e ?_;refine kB_n ?_;refine kS_n ?_;refine wE_region ?_;refine yM ?_;refine yinc ?_;refine yM ?_;refine y3 ?_
   refine⟨17-(a+1),by omega,a+1,by omega,by omega,rfl,rfl,rfl,w5.congr fun x y hx hy=> ?_⟩
   unfold doneF
   by_cases hq:x<a∨(x=a∧y<17)
   ·rw[if_pos hq,if_pos (by omega)]
   ·rw[if_neg hq]
    split
    ·rename_i hq2
     rw[←hG];unfold Vf
     rw[V_out (by simp;omega)]
    ·rfl
 ·obtain rfl:a=17:=by omega
  have hfin:grid (doneF G 17 1)=grid G:=grid_congr fun x y hx hy=>by unfold doneF;rw[if_pos (by omega)]
  have hl:(ints (grid G)).length=289:=by rw[ints_len,grid_len]
  have hl0:(ints (grid fun _ _=>0)).length=289:=by rw[ints_len,grid_len]
  have eA:ltake 289 (ldrop 0 (ints (grid G)))=ints (grid G):=by rw[ltake_eq,ldrop_eq,List.drop_zero,List.take_of_length_le (by omega)]
  have eB:lputs (ints (grid fun _ _=>0)) 0 (ints (grid G))=ints (grid G):=by
   rw[lputs_mid (by omega),List.take_zero,List.nil_append,Nat.zero_add,hl,List.drop_of_length_le (by omega),List.append_nil]
  have eC:ones (ints (grid G))=true:=ones_ints _
  have wo:=w4.obj
  rw[hfin]at wo
  have wl:=w4.log
  have g2:=(w4.old (h.next+1) (by omega)).trans A2
  have hz:PLift (h4.get (h.next+2)=some (.cells (ints (grid G)) true 1)∧h4.get (h.next+1)=some (.cells (ints (grid fun _ _=>0)) true 1)):=⟨⟨wo,g2⟩⟩
  clear wo g2 w4 A1 A2 A3
  generalize ints (grid G)=XS at*
  generalize ints (grid fun _ _=>0)=ZS at*
  refine wE_seq ?_;refine y4 ?_;refine yM ?_;refine yf ?_;refine y3 ?_;refine yX ?_;refine wE_exit ?_;refine kS_e ?_
  refine kS_e ?_;refine kB_e ?_;refine kS_n ?_;refine y4 ?_
  refine wO_val (a_loadN (l:=XS) (by exact rfl) hz.down.1 eA (by rw[llen_eq,hl];rfl)) ?_
  refine wO_val (a_store (ws:=XS) (by exact rfl) (by exact rfl) hz.down.2 (by simp[cellsOf,llen_eq,hl,hl0,eC]) (by show lputs ZS 0 XS=XS;exact eB)) ?_
  refine y3 ?_;refine wE_ret ?_
  exact endP_ret ((Heap.log_wr_new (by omega)).trans wl) (res_cells (b:=h.next+1) (l:=XS) (by exact rfl) (Heap.get_wr_new hz.down.2) eA (by rw[llen_eq,hl];rfl) res_nil) rfl
end Go.A.Pk
end
